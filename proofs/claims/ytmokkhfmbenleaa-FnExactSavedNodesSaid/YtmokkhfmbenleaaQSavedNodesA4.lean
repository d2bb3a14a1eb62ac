import Derived.Test.YtmokkhfmbenleaaQSavedNodes0
import Derived.Test.YtmokkhfmbenleaaQSavedNodes14
import Derived.Test.YtmokkhfmbenleaaQSavedNodes15
import Derived.Test.YtmokkhfmbenleaaQSavedNodes18
import Derived.Test.YtmokkhfmbenleaaQSavedNodes7
import Derived.Test.YtmokkhfmbenleaaQSavedNodes8
import Derived.Test.YtmokkhfmbenleaaQSavedNodes9
import Derived.Test.YtmokkhfmbenleaaQSavedNodesA3
namespace Go.Proofs.Ytmokkhfmbenleaa.QSavedNodes
open Go.RowKit Go.Proofs.YtmokkhfmbenleaaW.PrintWords Go.Proofs.YtmokkhfmbenleaaW.PrintLast Go.Proofs.YtmokkhfmbenleaaW.PrintMore
attribute [local go_sem] max2_int min2_int max_two min_two max_three min_three max_four min_four   -- for this text's walks alone
set_option linter.unusedVariables false
set_option linter.unusedSimpArgs false
def fireO (n : Nat) (s : Nat × Nat) : S71 := ⟨bl n s.1, bl n s.2⟩

theorem rdF_at {n : Nat} {pre : List S71} {x : S71} : rd_T71 (pre ++ [x]) (pre.length : Int) = x := by simp [rd_T71]

theorem l8Burn_tail {es : List S119} {n : Nat} (hn : n ≤ 8) (he : es.length ≤ 9223372036854775807) (L : List (List Int)) : ∀ (F : Nat) (pre : List S71) (b f : Nat), L.length ≤ pre.length → pre.length + F ≤ 2000000 → b < 2 ^ n → f < 2 ^ n → n < (bl n (b ||| f)).length + F →
  Ev (fun k => spec_l8Burn.l0 k L (pre ++ [fireO n (b, f)]) pre.length n es) (pre ++ [fireO n (b, f)] ++ (tailS es n F b f).map (fireO n))
 | 0, pre, b, f, _, _, _, _, h => by have := bl_len_le n (b ||| f);omega
 | F + 1, pre, b, f, hi, hF, hb, hf, h => by
  rw [Ev.iff_succ]
  have h1 : ¬ ((pre.length : Int) < L.length) := by omega
  have h2 : (0 : Int) ≤ pre.length := by omega
  have h3 : (pre.length : Int) < ((pre ++ [fireO n (b, f)]).length : Int) := by simp;omega
  have hT := thrM_lt (es := es) f hb
  have hz := bl_zero_iff (n := n) hT
  simp only [spec_l8Burn.l0, Ev.ite_iff, h1, h2, h3, ↓reduceIte, rdF_at (n := n)]
  rw [show (fireO n (b, f)).f0 = bl n b from rfl, show (fireO n (b, f)).f1 = bl n f from rfl]
  rw [Ev.bind_iff (l8Next_ev es n b f hn hb he), Ev.iff_succ]
  unfold tailS
  by_cases c : thrM es n b f = 0
  ·have h4 : ¬ (((bl n (thrM es n b f)).length : Int) > 0) := by have := hz.2 c;omega
   rw [if_pos c]
   simp only [spec_l8Burn.j1, h4, decide_false, Bool.false_eq_true, ↓reduceIte, List.map_nil, List.append_nil, Ev.now_iff]
  ·have h4 : ((bl n (thrM es n b f)).length : Int) > 0 := by have := mt hz.1 c;omega
   rw [if_neg c]
   simp only [spec_l8Burn.j1, h4, decide_true, ↓reduceIte, Ev.ite_iff, h1, h2, h3, rdF_at (n := n)]
   rw [show (fireO n (b, f)).f0 = bl n b from rfl, show (fireO n (b, f)).f1 = bl n f from rfl]
   have hR := l8Round_ev es n b f [] hn hb hf (by simp) (by simp) he
   simp only [mL, Nat.or_zero] at hR
   rw [Ev.bind_iff hR, Ev.ite_iff, if_pos (by simp;omega), w64_succ pre.length (by omega)]
   have ih := l8Burn_tail hn he L F (pre ++ [fireO n (b, f)]) (b ||| thrM es n b f) f (by simp;omega) (by simp;omega) (Nat.or_lt_two_pow hb hT) hf (by have := grow_thr hb hf c;omega)
   rw [show ((pre ++ [fireO n (b, f)]).length : Int) = ((pre.length + 1 : Nat) : Int) by simp] at ih
   simp only [List.map_cons]
   rw [show pre ++ [fireO n (b, f)] ++ (fireO n (b ||| thrM es n b f, f) :: (tailS es n F (b ||| thrM es n b f) f).map (fireO n)) = pre ++ [fireO n (b, f)] ++ [fireO n (b ||| thrM es n b f, f)] ++ (tailS es n F (b ||| thrM es n b f) f).map (fireO n) by simp]
   exact ih

theorem l8Burn_ev {es : List S119} {n D x : Nat} (hn : n ≤ 8) (hx : x < n) (hD : D ≤ 3) (he : es.length ≤ 9223372036854775807) (L : List (List Int)) (hL : L.length ≤ 8) (hok : fpB es n D L (2 ^ x) 0 = true) :
  Ev (fun k => spec_l8Burn.f k n es x L) (fireO n (2 ^ x, 0) :: (runS es n L (2 ^ x) 0).map (fireO n)) := by
 unfold spec_l8Burn.f
 have e0 : bl n 0 = [] := List.eq_nil_iff_forall_not_mem.2 (fun x hx => by obtain ⟨i, _, h2, _⟩ := mem_bl.1 hx;simp at h2)
 have hst : (⟨[(x : Int)], []⟩ : S71) = fireO n (2 ^ x, 0) := by unfold fireO;rw [e0, bl_pow n hn x hx];rfl
 rw [hst]
 have H := down L.length (fun i => ∀ (pre : List S71) (b f : Nat), pre.length = i → b < 2 ^ n → f < 2 ^ n → fpB es n D (L.drop i) b f = true →
  Ev (fun k => spec_l8Burn.l0 k L (pre ++ [fireO n (b, f)]) i n es) (pre ++ [fireO n (b, f)] ++ (runS es n (L.drop i) b f).map (fireO n))) ?_ ?_ 0 (by omega) [] (2 ^ x) 0 rfl (Nat.pow_lt_pow_right (by decide) hx) (Nat.two_pow_pos n) hok
 ·simpa using H
 ·intro pre b f hp hb hf _
  rw [List.drop_length, runS, ← hp]
  exact l8Burn_tail hn he L 9 pre b f (by omega) (by omega) hb hf (by omega)
 ·intro i hi ih pre b f hp hb hf hk
  rw [Ev.iff_succ]
  have h1 : (i : Int) < L.length := by omega
  have h2 : (0 : Int) ≤ i := by omega
  have h3 : (i : Int) < ((pre ++ [fireO n (b, f)]).length : Int) := by simp;omega
  have h4 : rd_T71 (pre ++ [fireO n (b, f)]) (i : Int) = fireO n (b, f) := by rw [← hp];exact rdF_at (n := n)
  rw [List.drop_eq_getElem_cons hi] at hk ⊢
  unfold fpB at hk
  simp only [Bool.and_eq_true] at hk
  obtain ⟨hin, hlen, hS⟩ := okS_in hk.1
  have hf' : f ||| mL L[i] < 2 ^ n := Nat.or_lt_two_pow hf hS
  have hb' := Nat.or_lt_two_pow hb (thrM_lt (es := es) (f ||| mL L[i]) hb)
  simp only [spec_l8Burn.l0, h1, ↓reduceIte]
  rw [Ev.iff_succ, runS]
  simp only [spec_l8Burn.j1, Ev.ite_iff, h1, h2, h3, h4, ↓reduceIte, rdL2_lt L i hi]
  rw [show (fireO n (b, f)).f0 = bl n b from rfl, show (fireO n (b, f)).f1 = bl n f from rfl]
  rw [Ev.bind_iff (l8Round_ev es n b f L[i] hn hb hf (by omega) hin he), Ev.ite_iff, if_pos (by simp;omega), w64_succ i (by omega)]
  have := ih (pre ++ [fireO n (b, f)]) _ _ (by simp;omega) hb' hf' hk.2
  simp only [List.map_cons]
  rw [show pre ++ [fireO n (b, f)] ++ (fireO n (b ||| thrM es n b (f ||| mL L[i]), f ||| mL L[i]) :: (runS es n (L.drop (i + 1)) (b ||| thrM es n b (f ||| mL L[i])) (f ||| mL L[i])).map (fireO n)) = pre ++ [fireO n (b, f)] ++ [fireO n (b ||| thrM es n b (f ||| mL L[i]), f ||| mL L[i])] ++ (runS es n (L.drop (i + 1)) (b ||| thrM es n b (f ||| mL L[i])) (f ||| mL L[i])).map (fireO n) by simp]
  exact this

/-- Is a list of lists a fire plan for a fire that may break out there? -/
def planB (n : Int) (es : List S119) (a d : Int) (L : List (List Int)) : Bool := fireB n es a d && (decide (L.length ≤ 8) && fpB es n.toNat d.toNat L (2 ^ a.toNat) 0)

def firesOf (n : Int) (es : List S119) (a : Int) (L : List (List Int)) : List (Nat × Nat) := (2 ^ a.toNat, 0) :: runS es n.toNat L (2 ^ a.toNat) 0

theorem rdF_lt (l : List S71) (i : Nat) (h : i < l.length) : rd_T71 l (i : Int) = l[i] := by simp [rd_T71, h]

theorem planB_use {n : Int} {es : List S119} {a d : Int} {L : List (List Int)} (h : planB n es a d L = true) : ∃ N x D : Nat, n = N ∧ a = x ∧ d = D ∧ N ≤ 8 ∧ okG N es = true ∧ x < N ∧ D ≤ 3 ∧ L.length ≤ 8 ∧ fpB es N D L (2 ^ x) 0 = true := by
 simp only [planB, Bool.and_eq_true, decide_eq_true_eq] at h
 obtain ⟨N, x, D, rfl, rfl, rfl, h1, h2, h3, h4⟩ := fireB_use h.1
 exact ⟨N, x, D, rfl, rfl, rfl, h1, h2, h3, h4, h.2.1, by simpa using h.2.2⟩

theorem firesOf_len {n : Int} {es : List S119} {a d : Int} {L : List (List Int)} (h : planB n es a d L = true) : 1 ≤ (firesOf n es a L).length ∧ (firesOf n es a L).length ≤ 18 := by
 obtain ⟨N, x, D, rfl, rfl, rfl, _, _, _, _, h8, _⟩ := planB_use h
 have := runS_len (es := es) (n := N) L (2 ^ x) 0
 simp only [firesOf, Int.toNat_natCast, List.length_cons]
 omega

theorem firesOf_lt {N x D : Nat} {es : List S119} {L : List (List Int)} (h : planB N es x D L = true) : ∀ s ∈ firesOf N es x L, s.1 < 2 ^ N := by
 obtain ⟨N', x', D', e1, e2, e3, hN, hg, hx, hD, h8, hp⟩ := planB_use h
 obtain rfl : N' = N := by omega
 obtain rfl : x' = x := by omega
 have h2 := Nat.pow_lt_pow_right (show 1 < 2 by decide) hx
 intro s hs
 simp only [firesOf, Int.toNat_natCast, List.mem_cons] at hs
 rcases hs with rfl | hs
 ·exact h2
 ·exact runS_lt L _ _ h2 (Nat.two_pow_pos _) hp s hs

/-- What the reference's fire comes to, of a plan. -/
theorem l8Burn_fires {N x D : Nat} {es : List S119} {L : List (List Int)} (h : planB N es x D L = true) (he : es.length ≤ 9223372036854775807) : Ev (fun k => spec_l8Burn.f k N es x L) ((firesOf N es x L).map (fireO N)) := by
 obtain ⟨N', x', D', e1, e2, e3, hN, hg, hx, hD, h8, hp⟩ := planB_use h
 obtain rfl : N' = N := by omega
 obtain rfl : x' = x := by omega
 have H := l8Burn_ev hN hx hD he L h8 hp
 simp only [firesOf, Int.toNat_natCast, List.map_cons]
 exact H

/-- What the program's fire plan comes to, of a plan. -/
theorem firePlan_fires {N x D : Nat} {es : List S119} {L : List (List Int)} (h : planB N es x D L = true) (hr : ∀ r ∈ L, r.length ≤ 1048576) : ∃ z, Ev (fun k => impl_firePlan.f k N es x D L) ((firesOf N es x L).map (fun s => ((s.1 : Nat) : Int)), z) ∧ z.2.2 = true := by
 obtain ⟨N', x', D', e1, e2, e3, hN, hg, hx, hD, h8, hp⟩ := planB_use h
 obtain rfl : N' = N := by omega
 obtain rfl : x' = x := by omega
 obtain rfl : D' = D := by omega
 have H := firePlan_ev hN hg hx hD L hr
 rw [if_pos h8] at H
 have h1 := fpI_run L (2 ^ x') 0 [((2 ^ x' : Nat) : Int)] hp
 have h2 := fpI_ok (es := es) (n := N') (D := D') L (2 ^ x') 0 [((2 ^ x' : Nat) : Int)]
 rw [hp] at h2
 refine ⟨(fpI es N' D' L (2 ^ x') 0 [((2 ^ x' : Nat) : Int)]).2, ?_, h2⟩
 have h3 : (firesOf N' es x' L).map (fun s => ((s.1 : Nat) : Int)) = (fpI es N' D' L (2 ^ x') 0 [((2 ^ x' : Nat) : Int)]).1 := by
  rw [h1]
  simp only [firesOf, Int.toNat_natCast, List.map_cons, List.singleton_append]
 rw [h3]
 exact H

/-- A list is no plan. -/
theorem spec_noplan {n : Int} {es : List S119} {a d : Int} {L : List (List Int)} (h : fireB n es a d = true) (hp : ¬ planB n es a d L = true) (he : es.length ≤ 9223372036854775807) (hL : L.length ≤ 1048576) (hr : ∀ r ∈ L, r.length ≤ 1048576) : Ev (fun k => spec_l8Plan.f k n es a d L) false := by
 obtain ⟨N, x, D, rfl, rfl, rfl, hN, hg, hx, hD⟩ := fireB_use h
 have H := l8Plan_ev hN hx hD he L hL hr
 have : (decide (L.length ≤ 8) && fpB es N D L (2 ^ x) 0) = false := by
  cases c : (decide (L.length ≤ 8) && fpB es N D L (2 ^ x) 0)
  ·rfl
  ·exact absurd (by simp only [planB, h, Int.toNat_natCast, c, Bool.and_self]) hp
 rw [this] at H
 exact H

theorem spec_plan {n : Int} {es : List S119} {a d : Int} {L : List (List Int)} (h : planB n es a d L = true) (he : es.length ≤ 9223372036854775807) (hL : L.length ≤ 1048576) (hr : ∀ r ∈ L, r.length ≤ 1048576) : fireB n es a d = true ∧ Ev (fun k => spec_l8Plan.f k n es a d L) true := by
 have h' := h
 simp only [planB, Bool.and_eq_true] at h'
 refine ⟨h'.1, ?_⟩
 obtain ⟨N, x, D, rfl, rfl, rfl, hN, hg, hx, hD, h8, hp⟩ := planB_use h
 have H := l8Plan_ev hN hx hD he L hL hr
 rw [hp, decide_eq_true h8] at H
 exact H

theorem impl_noplan {n : Int} {es : List S119} {a d : Int} {L : List (List Int)} (h : fireB n es a d = true) (hp : ¬ planB n es a d L = true) (hr : ∀ r ∈ L, r.length ≤ 1048576) : ∃ z, Ev (fun k => impl_firePlan.f k n es a d L) z ∧ z.2.2.2 = false := by
 obtain ⟨N, x, D, rfl, rfl, rfl, hN, hg, hx, hD⟩ := fireB_use h
 have H := firePlan_ev hN hg hx hD L hr
 refine ⟨_, H, ?_⟩
 by_cases c : L.length ≤ 8
 ·rw [if_pos c, fpI_ok]
  cases e : fpB es N D L (2 ^ x) 0
  ·rfl
  ·exact absurd (by simp only [planB, h, Int.toNat_natCast, e, c, decide_true, Bool.and_self]) hp
 ·rw [if_neg c]

def lastM (F : List (Nat × Nat)) : Nat := (F.getD (F.length - 1) (0, 0)).1

def savedNodesR (n : Int) (es : List S119) (a d : Int) (L : List (List Int)) : List Int × Bool := if planB n es a d L then (bl n.toNat (mns (2 ^ n.toNat - 1) (lastM (firesOf n es a L))), true) else ([], false)

theorem savedNodesR_len (n : Int) (es : List S119) (a d : Int) (L : List (List Int)) : (savedNodesR n es a d L).1.length ≤ 1048576 := by
 unfold savedNodesR
 split
 ·rename_i h
  obtain ⟨N, x, D, rfl, rfl, rfl, hN, _⟩ := planB_use h
  have := bl_len_le N (mns (2 ^ N - 1) (lastM (firesOf N es x L)))
  simp only [Int.toNat_natCast];omega
 ·simp

theorem specSavedNodes_ev (n : Int) (es : List S119) (a d : Int) (L : List (List Int)) (_ : (Lit.int .i64 a).wf = true) (_ : (Lit.int .i64 d).wf = true) (hL : L.length ≤ 1048576) (hr : ∀ r ∈ L, r.length ≤ 1048576) (he : es.length ≤ 9223372036854775807) : Ev (fun k => spec_SavedNodes.f k n es a d L) (savedNodesR n es a d L) := by
 unfold spec_SavedNodes.f savedNodesR
 rw [l8Good_eq]
 simp only [Option.bind_some, Ev.ite_iff]
 by_cases h : planB n es a d L = true
 case neg =>
  rw [if_neg h]
  by_cases hf : fireB n es a d = true
  ·rw [if_pos hf, Ev.bind_iff (spec_noplan hf h he hL hr), Ev.iff_succ]
   simp only [spec_SavedNodes.j0, Bool.not_false, ↓reduceIte, Ev.now_iff]
  ·rw [if_neg hf, Ev.iff_succ]
   simp only [spec_SavedNodes.j0, ↓reduceIte, Ev.now_iff]
 obtain ⟨hf, hp⟩ := spec_plan h he hL hr
 rw [if_pos h, if_pos hf, Ev.bind_iff hp, Ev.iff_succ]
 simp only [spec_SavedNodes.j0, Bool.not_true, Bool.false_eq_true, ↓reduceIte]
 have hl := firesOf_len h
 obtain ⟨N, x, D, rfl, rfl, rfl, hN, _⟩ := planB_use h
 rw [Ev.bind_iff (l8Burn_fires h he), Int.toNat_natCast]
 generalize firesOf N es x L = F at hl
 have h2 : wrap64 ((F.length : Int) - 1) = ((F.length - 1 : Nat) : Int) := by rw [w64 (by omega) (by omega)];omega
 have h3 : rd_T71 (F.map (fireO N)) ((F.length - 1 : Nat) : Int) = fireO N (F[F.length - 1]'(by omega)) := by rw [rdF_lt _ _ (by simp;omega), List.getElem_map]
 have h4 : lastM F = (F[F.length - 1]'(by omega)).1 := by unfold lastM;rw [List.getD_eq_getElem?_getD, List.getElem?_eq_getElem (by omega)];rfl
 rw [h4]
 generalize F[F.length - 1]'(by omega) = s at h3
 have h5 : (fireO N s).f0 = bl N s.1 := rfl
 have h6 : (0 : Int) ≤ ((F.length - 1 : Nat) : Int) := by omega
 have h7 : ((F.length - 1 : Nat) : Int) < (F.length : Int) := by omega
 have hb := bl_len_le N s.1
 have H := down N (fun i => Ev (fun k => spec_SavedNodes.l0 k (bl i (mns (2 ^ N - 1) s.1)) (F.map (fireO N)) i N es) (bl N (mns (2 ^ N - 1) s.1), true)) ?_ ?_ 0 (by omega)
 ·simpa [bl] using H
 ·show Ev _ _
  rw [Ev.iff_succ]
  simp only [spec_SavedNodes.l0, Int.lt_irrefl, ↓reduceIte, Ev.now_iff]
 ·intro i hi ih
  show Ev _ _
  rw [Ev.iff_succ]
  have h1 : (i : Int) < (N : Int) := by omega
  have g3 := bl_len_le i (mns (2 ^ N - 1) s.1)
  have g4 : (bl i (mns (2 ^ N - 1) s.1)).length < 17592186044416 := by omega
  have g5 : (mns (2 ^ N - 1) s.1).testBit i = !s.1.testBit i := by rw [mns_bit, Nat.testBit_two_pow_sub_one];simp [hi]
  rw [bl_step hi, g5] at ih
  simp only [spec_SavedNodes.l0, List.length_map, h1, h2, h6, h7, h3, h5, g4, ↓reduceIte, w64_succ i (show i < 9223372036854775807 by omega)]
  rw [Ev.bind_iff (l1Has_ev (bl N s.1) i (by omega)), Ev.ite_iff]
  simp only [mem_bl_nat, hi, true_and]
  cases c : s.1.testBit i
  ·rw [c] at ih;simpa using ih
  ·rw [c] at ih;simpa using ih

theorem implSavedNodes_ev (n : Int) (es : List S119) (a d : Int) (L : List (List Int)) (_ : (Lit.int .i64 a).wf = true) (_ : (Lit.int .i64 d).wf = true) (hL : L.length ≤ 1048576) (hr : ∀ r ∈ L, r.length ≤ 1048576) : Ev (fun k => impl_SavedNodes.f k n es a d L) (savedNodesR n es a d L) := by
 unfold impl_SavedNodes.f savedNodesR
 rw [Ev.bind_iff (isFire_ev n es a d), Ev.ite_iff]
 by_cases h : planB n es a d L = true
 case neg =>
  rw [if_neg h]
  by_cases hf : fireB n es a d = true
  ·obtain ⟨z, hz, hz2⟩ := impl_noplan hf h hr
   rw [if_pos hf, Ev.bind_iff hz, hz2, Ev.ite_iff, if_neg (by decide), Ev.now_iff]
  ·rw [if_neg hf, Ev.now_iff]
 have hf : fireB n es a d = true := by
  have h' := h
  simp only [planB, Bool.and_eq_true] at h'
  exact h'.1
 have hl := firesOf_len h
 obtain ⟨N, x, D, rfl, rfl, rfl, hN, hg, _⟩ := planB_use h
 obtain ⟨z, hz, hz2⟩ := firePlan_fires h hr
 have hlt := firesOf_lt h
 rw [if_pos h, if_pos hf, Ev.bind_iff hz, Ev.ite_iff, if_pos hz2, Int.toNat_natCast, netOf_eq hg]
 clear hz
 simp only [Option.bind_some, all_eq hN, List.length_map]
 generalize firesOf N es x L = F at hl hlt
 have h2 : wrap64 ((F.length : Int) - 1) = ((F.length - 1 : Nat) : Int) := by rw [w64 (by omega) (by omega)];omega
 have h3 : rd (F.map (fun s => ((s.1 : Nat) : Int))) ((F.length - 1 : Nat) : Int) = (((F[F.length - 1]'(by omega)).1 : Nat) : Int) := by rw [rd_lt _ _ (by simp;omega), List.getElem_map]
 have h4 : lastM F = (F[F.length - 1]'(by omega)).1 := by unfold lastM;rw [List.getD_eq_getElem?_getD, List.getElem?_eq_getElem (by omega)];rfl
 have h8 := hlt _ (List.getElem_mem (show F.length - 1 < F.length by omega))
 rw [h4]
 generalize F[F.length - 1]'(by omega) = s at h3 h8
 have h6 : (0 : Int) ≤ ((F.length - 1 : Nat) : Int) := by omega
 have h7 : ((F.length - 1 : Nat) : Int) < (F.length : Int) := by omega
 have hc : 2 ^ N - 1 < 2 ^ N := by have := Nat.two_pow_pos N;omega
 simp only [h2, h6, h7, h3, ↓reduceIte]
 rw [gandn _ _ (lt62 hN hc) (lt62 hN h8), Ev.bind_iff (setOf_ev N _ hN (mns_lt _ hc)), Ev.now_iff]

theorem FnExactSavedNodes_pure (n : Int) (es : List S119) (a0 : Int) (a1 : Int) (L : List (List Int)) (he : es.length ≤ 9223372036854775807) (ha0 : (Lit.int .i64 a0).wf = true) (ha1 : (Lit.int .i64 a1).wf = true) (hL : L.length ≤ 9223372036854775807) (hr : ∀ r ∈ L, r.length ≤ 9223372036854775807) : Ev (fun k => laws_FnExactSavedNodes.f k n es a0 a1 L) true := by
 unfold laws_FnExactSavedNodes.f
 rw [szGraph_eq n es (by omega)]
 simp only [Option.bind_some, Ev.ite_iff]
 by_cases hs : es.length ≤ 1048576
 case neg => rw [if_neg hs, if_pos (by omega), Ev.now_iff]
 rw [if_pos hs, if_neg (by omega)]
 obtain ⟨zL, hzL, hyL⟩ := szIntSS_ev L (1048576 - es.length) (by omega) hL hr
 rw [show (1048576 - (es.length : Int)) = ((1048576 - es.length : Nat) : Int) by omega, Ev.bind_iff hzL, Ev.ite_iff]
 by_cases hnL : zL < 0
 ·rw [if_pos hnL, Ev.now_iff]
 rw [if_neg hnL]
 have hxL := hyL.resolve_left hnL
 have hjL := toIntSS_ev L hxL.2.1 hxL.2.2.1
 have huL := hxL.2.2.2
 have hg := toGraph_ev n es (by omega)
 have hq9 := savedNodesR_len n es a0 a1 L
 have hS := specSavedNodes_ev n es a0 a1 L ha0 ha1 hxL.2.1 hxL.2.2.1 (by omega)
 have hI := implSavedNodes_ev n es a0 a1 L ha0 ha1 hxL.2.1 hxL.2.2.1
 generalize savedNodesR n es a0 a1 L = R at hq9 hS hI
 rw [Ev.bind_iff hg, Ev.bind_iff hjL, Ev.bind_iff hS, Ev.bind_iff hg, Ev.bind_iff hjL, Ev.bind_iff hI]
 rw [Ev.bind_iff (eqIntS_refl R.1 (by omega))]
 simp only [bne_self_eq_false, Bool.false_eq_true, ↓reduceIte]
 rw [Ev.iff_succ]
 simp only [laws_FnExactSavedNodes.j0, Bool.false_eq_true, ↓reduceIte]
 rw [Ev.bind_iff hg, Ev.bind_iff (eqGraph_refl n es he)]
 simp only [↓reduceIte]
 rw [Ev.bind_iff hjL, Ev.bind_iff (eqIntSS_refl L hL hr)]
 simp only [↓reduceIte]
 obtain ⟨rm, hm⟩ := markGraph_eq n es 1 (by omega) (by omega)
 rw [hm]
 simp only [Option.bind_some]
 rw [Ev.bind_iff (markIntSS_ev L (1 + 2 * (es.length : Int)) (by omega) (by omega) (by omega))]
 simp only []
 rw [Ev.ite_iff, if_neg (by omega), Ev.bind_iff (eqIntS_refl R.1 (by omega))]
 simp only [bne_self_eq_false, ↓reduceIte]
 rw [Ev.iff_succ]
 simp only [laws_FnExactSavedNodes.j1, Bool.false_eq_true, ↓reduceIte]
 rw [Ev.bind_iff (markIntS_ev R.1 1 (by omega) (by omega))]
 simp only []
 rw [Ev.bind_iff (heldIntS_ev 1 R.1.length (by omega) (by omega)), Ev.ite_iff, if_neg (by omega)]
 simp only [↓reduceIte]
 rw [Ev.bind_iff hg, Ev.bind_iff hjL, Ev.bind_iff hI, Ev.bind_iff (eqIntS_refl R.1 (by omega))]
 simp only [bne_self_eq_false, ↓reduceIte]
 rw [Ev.iff_succ]
 simp only [laws_FnExactSavedNodes.j2, Bool.false_eq_true, ↓reduceIte]
 rw [Ev.bind_iff (heldIntS_ev 1 R.1.length (by omega) (by omega)), Ev.ite_iff, if_neg (by omega)]
 simp only [↓reduceIte, Ev.now_iff]

end Go.Proofs.Ytmokkhfmbenleaa.QSavedNodes
