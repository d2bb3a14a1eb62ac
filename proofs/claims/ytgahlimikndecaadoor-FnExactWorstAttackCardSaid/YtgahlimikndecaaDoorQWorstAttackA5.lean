import Derived.Test.YtgahlimikndecaaDoorQWorstAttack0
import Derived.Test.YtgahlimikndecaaDoorQWorstAttack4
import Derived.Test.YtgahlimikndecaaDoorQWorstAttack5
import Derived.Test.YtgahlimikndecaaDoorQWorstAttack7
import Derived.Test.YtgahlimikndecaaDoorQWorstAttack8
import Derived.Test.YtgahlimikndecaaDoorQWorstAttack9
import Derived.Test.YtgahlimikndecaaDoorQWorstAttackA4
namespace Go.Proofs.YtgahlimikndecaaDoor.QWorstAttack
open Go.RowKit Go.Proofs.YtgahlimikndecaaDoorW.PrintWords Go.Proofs.YtgahlimikndecaaDoorW.PrintLast Go.Proofs.YtgahlimikndecaaDoorW.PrintMore
attribute [local go_sem] max2_int min2_int max_two min_two max_three min_three max_four min_four   -- for this text's walks alone
set_option linter.unusedVariables false
set_option linter.unusedSimpArgs false
set_option maxRecDepth 100000
set_option maxHeartbeats 8000000
theorem guardGame_ev {es : List S78} {n k : Nat} (hn : n ≤ 8) (hk : k ≤ n) (all : Bool) : Ev (fun f => impl_net_guardGame.f f (nets es n) k all) ((n : Int), gsL n k, gamG es n all (gsL n k) (gsL n k).length) := by
 have G := gsL_gm (es := es) hn k
 have hs : impl_net_size.f (nets es n) = some (n : Int) := by unfold impl_net_size.f;rw [nets_len]
 unfold impl_net_guardGame.f
 simp only [hs, Option.bind_some]
 rw [Ev.bind_iff (implGuardSets2_ev hn hk)]
 generalize gsL n k = L at G ⊢
 have hm := G.len
 have H := down L.length (fun i => Ev (fun f => impl_net_guardGame.l0 f all L (L.length : Int) i (nets es n) n L (gamG es n all L i)) ((n : Int), L, gamG es n all L L.length)) ?_ ?_ 0 (by omega)
 ·exact H
 ·show Ev _ _
  rw [Ev.iff_succ]
  simp only [impl_net_guardGame.l0, Int.lt_irrefl, ↓reduceIte, Ev.now_iff]
 ·intro i hi ih
  show Ev _ _
  rw [Ev.iff_succ]
  have h1 : (i : Int) < (L.length : Int) := by omega
  have h2 : (0 : Int) ≤ (i : Int) := by omega
  simp only [impl_net_guardGame.l0, Ev.ite_iff, h1, h2, ↓reduceIte, rdL2_nat]
  have H2 := down L.length (fun j => Ev (fun f => impl_net_guardGame.l1 f all (grd L i) (nI ((List.range j).filter fun j => mvG es n all L i j)) L (L.length : Int) i L (L.length : Int) j (nets es n) n L (gamG es n all L i)) ((n : Int), L, gamG es n all L L.length)) ?_ ?_ 0 (by omega)
  ·exact H2
  ·show Ev _ _
   rw [Ev.iff_succ]
   have h3 : (gamG es n all L i).length < 5864062014805 := by rw [gamG_len];omega
   have h4 : gamG es n all L i ++ [nI ((List.range L.length).filter fun j => mvG es n all L i j)] = gamG es n all L (i + 1) := by simp [gamG, List.range_succ, mvsG]
   simp only [impl_net_guardGame.l1, Int.lt_irrefl, ↓reduceIte, h3, h4, w64_succ i (show i < 9223372036854775807 by omega)]
   exact ih
  ·intro j hj ih2
   show Ev _ _
   rw [Ev.iff_succ]
   have h3 : (j : Int) < (L.length : Int) := by omega
   have h4 : (0 : Int) ≤ (j : Int) := by omega
   have h5 : (nI ((List.range j).filter fun j => mvG es n all L i j)).length < 17592186044416 := by
    have := nI_filter_len j (fun j => mvG es n all L i j);omega
   rw [filter_range_succ, nI_app] at ih2
   simp only [impl_net_guardGame.l1, Ev.ite_iff, h3, h4, ↓reduceIte, rdL2_nat, w64_succ j (show j < 9223372036854775807 by omega)]
   rw [Ev.bind_iff (gm_mask G hi), Ev.bind_iff (gm_mask G hj), Ev.bind_iff (gm_impl G all hi hj)]
   simp only [Ev.ite_iff, h5, ↓reduceIte]
   cases hv : mvG es n all L i j with
   | true => rw [if_pos rfl];rw [hv, if_pos rfl] at ih2;exact ih2
   | false => rw [if_neg (by decide)];rw [hv, if_neg (by decide), show nI ([] : List Nat) = [] from rfl, List.append_nil] at ih2;exact ih2

theorem slicesContains_ev (l : List Int) (x : Int) (hl : l.length ≤ 9223372036854775807) : Ev (fun k => slices_Contains_int_int.f k l x) (decide (x ∈ l)) := by
 unfold slices_Contains_int_int.f slices_Index_int_int.f
 have H := down l.length (fun i => ∃ j : Int, Ev (fun k => slices_Index_int_int.l0 k l x (l.length : Int) i) j ∧ (j ≥ 0 ↔ x ∈ l.drop i)) ?_ ?_ 0 (by omega)
 ·obtain ⟨j, h1, h2⟩ := H
  rw [Ev.bind_iff (show Ev (fun k => slices_Index_int_int.l0 k l x (l.length : Int) 0) j from h1), Ev.now_iff, decide_eq_decide, h2, List.drop_zero]
 ·refine ⟨-1, ?_, by simp⟩
  rw [Ev.iff_succ]
  simp only [slices_Index_int_int.l0, Int.lt_irrefl, ↓reduceIte, Ev.now_iff]
 ·intro i hi ih
  obtain ⟨j, h1, h2⟩ := ih
  have g1 : (i : Int) < (l.length : Int) := by omega
  have g2 : (0 : Int) ≤ (i : Int) := by omega
  by_cases c : x = l[i]
  ·refine ⟨i, ?_, ⟨fun _ => by rw [c, List.drop_eq_getElem_cons hi];exact List.mem_cons_self, fun _ => by omega⟩⟩
   rw [Ev.iff_succ]
   simp only [slices_Index_int_int.l0, Ev.ite_iff, g1, g2, ↓reduceIte, rd_lt l i hi]
   rw [if_pos c, Ev.now_iff]
  ·refine ⟨j, ?_, by rw [h2, List.drop_eq_getElem_cons hi, List.mem_cons];simp [c]⟩
   rw [Ev.iff_succ]
   simp only [slices_Index_int_int.l0, Ev.ite_iff, g1, g2, ↓reduceIte, rd_lt l i hi, w64_succ i (show i < 9223372036854775807 by omega)]
   rw [if_neg c]
   exact h1

theorem answers_eq {es : List S78} {n : Nat} {L : List (List Int)} (G : Gm es n L) (all : Bool) {i : Nat} (hi : i < L.length) (x q : Int) : impl_guardGame_answers.f q L (gamG es n all L L.length) i x = some (nI (ansG es n all L i x), q) := by
 have hm := G.len
 unfold impl_guardGame_answers.f
 have h1 : (mvsG es n all L i).length ≤ L.length := by
  have := List.length_filter_le (fun j => mvG es n all L i j) (List.range L.length)
  rw [List.length_range] at this;exact this
 have h2 : slices_Clone_int_int.f (nI (mvsG es n all L i)) = some (nI (mvsG es n all L i)) := by
  unfold slices_Clone_int_int.f
  simp only [Option.bind_some, List.length_nil, List.nil_append, nI_len]
  rw [if_pos (by omega)]
 rw [if_pos (by omega), if_pos (by rw [gamG_len];omega), gamG_rd hi, h2]
 simp only [Option.bind_some]
 unfold delF
 rw [if_pos]
 ·simp only [Option.bind_some]
  congr 2
  unfold ansG mvsG nI
  rw [List.filter_map, List.filter_filter]
  congr 1
  refine List.filter_congr fun j _ => ?_
  simp only [Function.comp_apply, rdL2_nat, hasG, List.contains_eq_mem]
  rfl
 ·intro y hy
  unfold nI at hy
  obtain ⟨j, hj, rfl⟩ := List.mem_map.1 hy
  have := List.mem_range.1 (List.mem_filter.1 hj).1
  omega

theorem hasNeg_eq {m : Nat} {T : Nat → Int} {l : List Nat} (h : ∀ j ∈ l, j < m) : hasNeg (rowF m T) (nI l) = some (!(l.all fun j => decide (0 ≤ T j))) := by
 unfold hasNeg
 rw [if_pos]
 ·congr 1
  induction l with
  | nil => rfl
  | cons j l ih =>
   have ih := ih (fun i hi => h i (List.mem_cons_of_mem _ hi))
   unfold nI at ih ⊢
   rw [List.map_cons, List.any_cons, ih, List.all_cons, rowF_rd (h j (by simp)), Bool.not_and]
   congr 1
   by_cases c : T j < 0
   ·rw [decide_eq_true c, decide_eq_false (by omega)];rfl
   ·rw [decide_eq_false c, decide_eq_true (by omega)];rfl
 ·intro y hy
  unfold nI at hy
  obtain ⟨j, hj, rfl⟩ := List.mem_map.1 hy
  have := h j hj
  rw [rowF_len]
  omega

theorem cloneI_eq {l : List Int} (h : l.length < 17592186044416) : slices_Clone_int_int.f l = some l := by
 unfold slices_Clone_int_int.f
 simp only [Option.bind_some, List.length_nil, List.nil_append, Nat.zero_add, h, ↓reduceIte]

theorem resist_l0 {es : List S78} {n : Nat} {L : List (List Int)} (G : Gm es n L) (all : Bool) : ∀ (d t : Nat) (T : Nat → Int), t + d ≤ 1000 → negG T L.length ≤ d → Ev (fun k => impl_guardGame_resist.l0 k (rowF L.length T) (t : Int) true (n : Int) L (gamG es n all L L.length)) (rowF L.length (rndG es n all L d t T), (n : Int)) := by
 intro d
 have hm := G.len
 have hn := G.hn
 induction d with
 | zero => ?_
 | succ d ihd => ?_
 all_goals
  intro t T ht hN
  rw [Ev.iff_succ]
  simp only [impl_guardGame_resist.l0, ↓reduceIte, cloneI_eq (show (rowF L.length T).length < 17592186044416 by rw [rowF_len];omega), Option.bind_some]
  have H : ∀ R, Ev (fun k => impl_guardGame_resist.l0 k (rowF L.length (nxtG es n all L T t)) (wrap64 ((t : Int) + 1)) (grewG es n all L T L.length) (n : Int) L (gamG es n all L L.length)) R →
    Ev (fun k => impl_guardGame_resist.l1 k (rowF L.length T) (t : Int) false L (L.length : Int) 0 (n : Int) L (gamG es n all L L.length) (rowF L.length T)) R := by
   intro R hR
   have H2 := down L.length (fun i => Ev (fun k => impl_guardGame_resist.l1 k (midG es n all L T t i) (t : Int) (grewG es n all L T i) L (L.length : Int) i (n : Int) L (gamG es n all L L.length) (rowF L.length T)) R) ?_ ?_ 0 (by omega)
   ·rw [midG_zero] at H2;exact H2
   ·show Ev _ _
    rw [Ev.iff_succ]
    simp only [impl_guardGame_resist.l1, Int.lt_irrefl, ↓reduceIte, midG_end]
    exact hR
   ·intro i hi ih
    show Ev _ _
    rw [Ev.iff_succ]
    have h1 : (i : Int) < (L.length : Int) := by omega
    have h2 : (0 : Int) ≤ (i : Int) := by omega
    rw [grewG_succ] at ih
    simp only [impl_guardGame_resist.l1, Ev.ite_iff, h1, h2, ↓reduceIte, rowF_len, rowF_rd hi, rdL2_nat, w64_succ i (show i < 9223372036854775807 by omega)]
    by_cases c : T i < 0
    case neg =>
     rw [if_pos (by omega), midG_keep (by simp [c])]
     rw [decide_eq_false c, Bool.false_and, Bool.or_false] at ih
     exact ih
    rw [if_neg (by omega)]
    rw [decide_eq_true c, Bool.true_and] at ih
    have hs := gm_short G hi
    have H3 := down n (fun x => (((List.range n).drop x).any fun x => !hasG L i (x : Int) && (ansG es n all L i (x : Int)).all fun j => decide (0 ≤ T j)) = fallG es n all L T i →
     Ev (fun k => impl_guardGame_resist.l2 k (midG es n all L T t i) (t : Int) (grewG es n all L T i) i (grd L i) L (L.length : Int) i (n : Int) x (n : Int) L (gamG es n all L L.length) (rowF L.length T)) R) ?_ ?_ 0 (by omega) rfl
    ·exact H3
    ·intro hf
     rw [List.drop_eq_nil_of_le (by simp)] at hf
     have hf' : fallG es n all L T i = false := hf.symm
     rw [Ev.iff_succ]
     simp only [impl_guardGame_resist.l2, Int.lt_irrefl, ↓reduceIte, w64_succ i (show i < 9223372036854775807 by omega)]
     rw [midG_keep (by simp [hf'])]
     rw [hf', Bool.or_false] at ih
     exact ih
    ·intro x hx ih3 hf
     rw [range_drop hx, List.any_cons] at hf
     rw [Ev.iff_succ]
     have h3 : (x : Int) < (n : Int) := by omega
     simp only [impl_guardGame_resist.l2, h3, ↓reduceIte, w64_succ x (show x < 9223372036854775807 by omega), w64_succ i (show i < 9223372036854775807 by omega)]
     rw [Ev.bind_iff (slicesContains_ev (grd L i) x (by omega)), Ev.ite_iff]
     by_cases cc : (x : Int) ∈ grd L i
     ·rw [if_pos (by simpa using cc)]
      have hc : hasG L i (x : Int) = true := decide_eq_true cc
      rw [hc, Bool.not_true, Bool.false_and, Bool.false_or] at hf
      exact ih3 hf
     ·rw [if_neg (by simpa using cc), answers_eq G all hi]
      have hc : hasG L i (x : Int) = false := decide_eq_false cc
      simp only [Option.bind_some, hasNeg_eq ansG_in, Ev.ite_iff]
      rw [hc, Bool.not_false, Bool.true_and] at hf
      cases ca : (ansG es n all L i (x : Int)).all fun j => decide (0 ≤ T j) with
      | false =>
       rw [if_pos (by decide)]
       rw [ca, Bool.false_or] at hf
       exact ih3 hf
      | true =>
       rw [ca, Bool.true_or] at hf
       rw [if_neg (by decide), if_pos h2, if_pos (by rw [show (midG es n all L T t i).length = L.length from rowF_len _ _];exact h1), Int.toNat_natCast, midG_put hi c hf.symm]
       rw [← hf, Bool.or_true] at ih
       exact ih
  refine H _ ?_
  clear H
 ·rw [grewG_zero hN, grewG_no (grewG_zero hN), Ev.iff_succ]
  simp only [impl_guardGame_resist.l0, Bool.false_eq_true, ↓reduceIte, Ev.now_iff]
  rfl
 ·unfold rndG
  cases hg : grewG es n all L T L.length with
  | true =>
   have h := negG_nxt (es := es) (n := n) (all := all) (L := L) (T := T) (t := t) L.length
   rw [hg, if_pos rfl] at h
   simp only [↓reduceIte, w64_succ t (show t < 9223372036854775807 by omega)]
   exact ihd (t + 1) _ (by omega) (by omega)
  | false =>
   rw [grewG_no hg, Ev.iff_succ]
   simp only [impl_guardGame_resist.l0, Bool.false_eq_true, ↓reduceIte, Ev.now_iff]

def rsG (es : List S78) (n : Nat) (all : Bool) (L : List (List Int)) : Nat → Int := rndG es n all L L.length 0 fun _ => -1

theorem resist_ev {es : List S78} {n : Nat} {L : List (List Int)} (G : Gm es n L) (all : Bool) : Ev (fun k => impl_guardGame_resist.f k (n : Int) L (gamG es n all L L.length)) (rowF L.length (rsG es n all L), (n : Int)) := by
 have hm := G.len
 have hrep : slices_Repeat_int_int.f ([(-1)] : List Int) (L.length : Int) = some (rowF L.length (fun _ => -1)) := by
  unfold slices_Repeat_int_int.f
  rw [if_pos ⟨rfl, by omega, by omega⟩, Int.toNat_natCast]
  congr 1
  apply List.ext_getElem <;> simp [rowF, rd]
 unfold impl_guardGame_resist.f
 rw [hrep]
 exact resist_l0 G all L.length 0 _ (by omega) (negG_le _ _)

theorem cho_sorted : ∀ (l : List Int) (k : Nat), l.Pairwise (· < ·) → (cho l k).Pairwise (fun a b => lexLt a b = true)
 | l, 0, _ => by rw [cho_zero];exact List.pairwise_singleton _ _
 | [], k + 1, _ => by simp [cho]
 | x :: s, k + 1, h => by
  rw [cho_cons, List.pairwise_append]
  have hs := (List.pairwise_cons.1 h)
  refine ⟨?_, cho_sorted s (k + 1) hs.2, ?_⟩
  ·rw [List.pairwise_map]
   exact (cho_sorted s k hs.2).imp (fun {a b} hab => by rw [lexLt_cons, if_pos rfl];exact hab)
  ·intro a ha b hb
   obtain ⟨t, _, rfl⟩ := List.mem_map.1 ha
   have hl := cho_mem_len s (k + 1) b hb
   match b, hl, hb with
   | y :: u, _, hb =>
    have hy := cho_mem_in s (k + 1) _ hb y (by simp)
    have := hs.1 y hy
    rw [lexLt_cons, if_neg (by omega)]
    exact decide_eq_true this

theorem cho_of_sublist {t l : List Int} (h : List.Sublist t l) : t ∈ cho l t.length := by
 induction h with
 | slnil => simp [cho_zero]
 | @cons t s x _ ih =>
  match t, ih with
  | [], _ => simp [cho_zero]
  | a :: u, ih => rw [List.length_cons, cho_cons, List.mem_append];exact .inr ih
 | @cons_cons t s x _ ih => rw [List.length_cons, cho_cons, List.mem_append];exact .inl (List.mem_map.2 ⟨_, ih, rfl⟩)

theorem bl_sublist {n m : Nat} : List.Sublist (bl n m) (bl n (2 ^ n - 1)) := by
 unfold bl
 refine List.Sublist.map _ ?_
 have : (List.range n).filter (fun x => (2 ^ n - 1).testBit x) = List.range n := List.filter_eq_self.2 (fun x hx => by rw [Nat.testBit_two_pow_sub_one];simpa using hx)
 rw [this]
 exact List.filter_sublist

def plcG (n : Nat) (l : List Int) : Nat := (gsL n l.length).idxOf l

theorem plcG_use {n m : Nat} {l : List Int} (h : l = bl n m) : plcG n l < (gsL n l.length).length ∧ grd (gsL n l.length) (plcG n l) = l := by
 have hm : l ∈ gsL n l.length := cho_of_sublist (by rw [h];exact bl_sublist)
 have h1 : plcG n l < (gsL n l.length).length := List.idxOf_lt_length_of_mem hm
 refine ⟨h1, ?_⟩
 rw [grd_lt h1]
 exact List.getElem_idxOf h1

theorem gsL_lt {n k i j : Nat} (hj : j < (gsL n k).length) (h : i < j) : lexLt (grd (gsL n k) i) (grd (gsL n k) j) = true := by
 rw [grd_lt (by omega), grd_lt hj]
 exact List.pairwise_iff_getElem.1 (cho_sorted _ k (bl_pairwise n _)) i j (Nat.lt_trans h hj) hj h

theorem gsL_cmp {n k i j : Nat} (hi : i < (gsL n k).length) (hj : j < (gsL n k).length) : (cmpG (grd (gsL n k) i) (grd (gsL n k) j) < 0 ↔ i < j) := by
 have hm : ∀ q, q < (gsL n k).length → (grd (gsL n k) q).length = k := fun q hq => cho_mem_len _ _ _ (by rw [grd_lt hq];exact List.getElem_mem hq)
 rw [cmpG_eq _ _ (by rw [hm i hi, hm j hj]), cmpL_lt]
 constructor
 ·intro h
  rcases Nat.lt_trichotomy i j with g | g | g
  ·exact g
  ·rw [g, lexLt_irr] at h;cases h
  ·have := lexLt_trans h (gsL_lt hi g)
   rw [lexLt_irr] at this;cases this
 ·exact gsL_lt hj

theorem cmpG_self : ∀ l : List Int, cmpG l l = 0
 | [] => rfl
 | a :: s => by rw [cmpG, if_pos rfl];exact cmpG_self s

theorem mid_eq {lo hi : Nat} (h1 : lo ≤ 256) (h2 : hi ≤ 256) : wrap64 ((IntKind.u64.wrap (wrap64 ((lo : Int) + (hi : Int)))) / 2) = (((lo + hi) / 2 : Nat) : Int) := by
 rw [show wrap64 ((lo : Int) + (hi : Int)) = ((lo + hi : Nat) : Int) by rw [w64] <;> omega, u64_wrap_id (lo + hi) (by omega)]
 rw [w64] <;> omega

theorem search_l0 {n K i : Nat} (hn : n ≤ 8) (hi : i < (gsL n K).length) : ∀ (d lo hi' : Nat), hi' - lo ≤ d → lo ≤ i → i ≤ hi' → hi' ≤ (gsL n K).length → Ev (fun k => slices_BinarySearchFunc_int_int_int.l0 k (gsL n K) (grd (gsL n K) i) ((gsL n K).length : Int) lo hi') ((i : Int), true) := by
 have G := gsL_gm (es := []) hn K
 have hm := G.len
 intro d
 induction d with
 | zero =>
  intro lo hi' h1 h2 h3 h4
  have : lo = i := by omega
  have : hi' = i := by omega
  subst lo hi'
  have g1 : (i : Int) < ((gsL n K).length : Int) := by omega
  have g2 : (0 : Int) ≤ (i : Int) := by omega
  rw [Ev.iff_succ]
  simp only [slices_BinarySearchFunc_int_int_int.l0, Int.lt_irrefl, ↓reduceIte, g1, g2, rdL2_nat]
  have hs := gm_short G hi
  rw [Ev.bind_iff (sliceCompareG_ev _ _ (by omega)), Ev.now_iff, cmpG_self]
  rfl
 | succ d ih =>
  intro lo hi' h1 h2 h3 h4
  by_cases c : lo < hi'
  ·have g1 : (lo : Int) < (hi' : Int) := by omega
   have hmid : (lo + hi') / 2 < (gsL n K).length := by omega
   have g2 : (0 : Int) ≤ (((lo + hi') / 2 : Nat) : Int) := by omega
   have g3 : (((lo + hi') / 2 : Nat) : Int) < ((gsL n K).length : Int) := by omega
   rw [Ev.iff_succ]
   simp only [slices_BinarySearchFunc_int_int_int.l0, g1, ↓reduceIte, mid_eq (show lo ≤ 256 by omega) (show hi' ≤ 256 by omega), g2, g3, rdL2_nat, w64_succ ((lo + hi') / 2) (show (lo + hi') / 2 < 9223372036854775807 by omega)]
   have hs := gm_short G hmid
   rw [Ev.bind_iff (sliceCompareG_ev _ _ (by omega)), Ev.ite_iff]
   have hc := gsL_cmp hmid hi
   have m1 : lo ≤ (lo + hi') / 2 := by omega
   have m2 : (lo + hi') / 2 < hi' := by omega
   generalize (lo + hi') / 2 = md at hc hmid g2 g3 hs m1 m2 ⊢
   by_cases cc : cmpG (grd (gsL n K) md) (grd (gsL n K) i) < 0
   ·rw [if_pos cc]
    exact ih (md + 1) hi' (by omega) (by have := hc.1 cc;omega) h3 h4
   ·rw [if_neg cc]
    exact ih lo md (by omega) h2 (by have : ¬ md < i := fun h => cc (hc.2 h);omega) (by omega)
  ·exact ih lo hi' (by omega) h2 h3 h4

theorem valPlace_ev {n m : Nat} {l : List Int} (hn : n ≤ 8) (h : l = bl n m) (q : Int) (mm : List (List Int)) : Ev (fun k => impl_valPlace.f k q (gsL n l.length) mm l) ((plcG n l : Nat) : Int) := by
 obtain ⟨h1, h2⟩ := plcG_use h
 have H := search_l0 hn h1 (gsL n l.length).length 0 (gsL n l.length).length (by omega) (by omega) (by omega) (Nat.le_refl _)
 rw [h2] at H
 unfold impl_valPlace.f slices_BinarySearchFunc_int_int_int.f
 rw [Ev.bind_iff (show Ev (fun k => slices_BinarySearchFunc_int_int_int.l0 k (gsL n l.length) l ((gsL n l.length).length : Int) 0 ((gsL n l.length).length : Int)) _ from H), Ev.now_iff]

theorem l1Same_ev (a b : List Int) (ha : a.length ≤ 9223372036854775807) : Ev (fun k => spec_l1Same.f k a b) (decide (a = b)) := by
 unfold spec_l1Same.f
 rw [Ev.ite_iff]
 by_cases h : a.length = b.length
 ·rw [if_pos (by omega)]
  have H := down a.length (fun i => Ev (fun k => spec_l1Same.l0 k a b i) (decide (a.drop i = b.drop i))) ?_ ?_ 0 (by omega)
  ·exact H
  ·show Ev _ _
   rw [Ev.iff_succ]
   simp only [spec_l1Same.l0, Int.lt_irrefl, ↓reduceIte, Ev.now_iff]
   rw [List.drop_length, List.drop_eq_nil_of_le (by omega)]
   rfl
  ·intro i hi ih
   show Ev _ _
   rw [Ev.iff_succ]
   have g1 : (i : Int) < (a.length : Int) := by omega
   have g2 : (i : Int) < (b.length : Int) := by omega
   have g3 : (0 : Int) ≤ (i : Int) := by omega
   simp only [spec_l1Same.l0, Ev.ite_iff, g1, g2, g3, ↓reduceIte, rd_lt a i hi, rd_lt b i (by omega), w64_succ i (show i < 9223372036854775807 by omega)]
   rw [List.drop_eq_getElem_cons hi, List.drop_eq_getElem_cons (show i < b.length by omega)]
   by_cases c : a[i] = b[i]
   ·rw [if_pos c, c]
    rw [show decide (b[i] :: a.drop (i + 1) = b[i] :: b.drop (i + 1)) = decide (a.drop (i + 1) = b.drop (i + 1)) from decide_eq_decide.2 ⟨fun e => (List.cons.inj e).2, fun e => by rw [e]⟩]
    exact ih
   ·rw [if_neg c, Ev.now_iff, decide_eq_false (fun e => c (List.cons.inj e).1)]
 ·rw [if_neg (by omega), Ev.now_iff, decide_eq_false (fun e => h (by rw [e]))]

theorem l4At_ev {n m : Nat} {l : List Int} (hn : n ≤ 8) (h : l = bl n m) : Ev (fun k => spec_l4At.f k (gsL n l.length) l) ((plcG n l : Nat) : Int) := by
 obtain ⟨h1, h2⟩ := plcG_use h
 have G := gsL_gm (es := []) hn l.length
 have hm := G.len
 unfold spec_l4At.f
 have H := down (plcG n l) (fun j => Ev (fun k => spec_l4At.l0 k (gsL n l.length) l j) ((plcG n l : Nat) : Int)) ?_ ?_ 0 (by omega)
 ·exact H
 ·show Ev _ _
  rw [Ev.iff_succ]
  have g1 : ((plcG n l : Nat) : Int) < ((gsL n l.length).length : Int) := by omega
  have g2 : (0 : Int) ≤ ((plcG n l : Nat) : Int) := by omega
  simp only [spec_l4At.l0, g1, g2, ↓reduceIte, rdL2_nat, h2]
  have hs := gm_short G h1
  rw [Ev.bind_iff (l1Same_ev l l (by rw [h2] at hs;omega)), Ev.ite_iff, if_pos (by simp), Ev.now_iff]
 ·intro j hj ih
  show Ev _ _
  rw [Ev.iff_succ]
  have hjl : j < (gsL n l.length).length := by omega
  have g1 : (j : Int) < ((gsL n l.length).length : Int) := by omega
  have g2 : (0 : Int) ≤ (j : Int) := by omega
  have hs := gm_short G hjl
  have hne : grd (gsL n l.length) j ≠ l := fun e => by
   have := gsL_lt h1 hj
   rw [h2, e, lexLt_irr] at this;cases this
  simp only [spec_l4At.l0, g1, g2, ↓reduceIte, rdL2_nat, w64_succ j (show j < 9223372036854775807 by omega)]
  rw [Ev.bind_iff (l1Same_ev _ l (by omega)), Ev.ite_iff, if_neg (by simp [hne])]
  exact ih

theorem bl_len8 {n m : Nat} {l : List Int} (hn : n ≤ 8) (h : l = bl n m) : l.length ≤ n := by rw [h]; exact bl_len_le n m

theorem valAnswers_eq {es : List S78} {n : Nat} {L : List (List Int)} (G : Gm es n L) (all : Bool) {i : Nat} (hi : i < L.length) (x q : Int) : impl_valAnswers.f q L (gamG es n all L L.length) i x = some (nI (ansG es n all L i x)) := by
 unfold impl_valAnswers.f
 rw [answers_eq G all hi]
 rfl

theorem rndG_le (es : List S78) (n : Nat) (all : Bool) (L : List (List Int)) : ∀ (d t : Nat) (T : Nat → Int), (∀ i, T i ≤ t) → ∀ i, rndG es n all L d t T i ≤ ((t + d : Nat) : Int)
 | 0, t, _, h, i => h i
 | d + 1, t, T, h, i => by
  unfold rndG
  split
  ·have := rndG_le es n all L d (t + 1) (nxtG es n all L T t) (fun j => by
    unfold nxtG
    have := h j
    split <;> omega) i
   omega
  ·have := h i;omega

end Go.Proofs.YtgahlimikndecaaDoor.QWorstAttack
