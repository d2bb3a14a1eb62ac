import Derived.Test.YtldenbmaifogeaaQGuardSets0
import Derived.Test.YtldenbmaifogeaaQGuardSets2
import Derived.Test.YtldenbmaifogeaaQGuardSets3
import Derived.Test.YtldenbmaifogeaaQGuardSets4
import Derived.Test.YtldenbmaifogeaaQGuardSets5
import Derived.Test.YtldenbmaifogeaaQGuardSets6
import Derived.Test.YtldenbmaifogeaaQGuardSets7
import Derived.Test.YtldenbmaifogeaaQGuardSets8
import Derived.Test.YtldenbmaifogeaaQGuardSetsA0
namespace Go.Proofs.Ytldenbmaifogeaa.QGuardSets
open Go.RowKit Go.Proofs.YtldenbmaifogeaaW.PrintWords Go.Proofs.YtldenbmaifogeaaW.PrintLast Go.Proofs.YtldenbmaifogeaaW.PrintMore
attribute [local go_sem] max2_int min2_int max_two min_two max_three min_three max_four min_four   -- for this text's walks alone
set_option linter.unusedVariables false
set_option linter.unusedSimpArgs false
theorem subsetsOf_ev : ∀ (m : Nat) (l : List Int) (k : Nat), l.length ≤ m → m ≤ 8 → k ≤ 8 → Ev (fun g => impl_subsetsOf.f g l k) (cho l k) := by
  intro m
  induction m using Nat.strongRecOn with
  | _ m IH =>
  intro l k hlm hm hk
  rw [Ev.iff_succ]
  simp only [impl_subsetsOf.f]
  cases k with
  | zero => rw [Ev.ite_iff, if_pos (by omega), Ev.now_iff, cho_zero]
  | succ k =>
  rw [Ev.ite_iff, if_neg (by omega)]
  have hp : 2 ^ l.length ≤ 256 := p8 (by omega)
  have H := down l.length (fun i => ∀ acc : List (List Int), acc.length + (cho (l.drop i) (k + 1)).length ≤ 256 → Ev (fun g => impl_subsetsOf.l0 g l ((k + 1 : Nat) : Int) acc l.length i) (acc ++ cho (l.drop i) (k + 1))) ?_ ?_ 0 (by omega) [] (by have := cho_len l (k + 1); simp; omega)
  · simpa using H
  · intro acc _
    rw [Ev.iff_succ]
    simp only [impl_subsetsOf.l0, Int.lt_irrefl, ↓reduceIte, Ev.now_iff, List.drop_length, cho, List.append_nil]
  · intro i hi ih acc ha
    rw [Ev.iff_succ]
    have h1 : (i : Int) < l.length := by omega
    have h2 : (0 : Int) ≤ i := by omega
    have h3 : (0 : Int) ≤ ((i + 1 : Nat) : Int) := by omega
    have h4 : ((i + 1 : Nat) : Int) ≤ l.length := by omega
    have e1 : wrap64 (((k + 1 : Nat) : Int) - 1) = (k : Int) := by rw [w64] <;> omega
    have hrec := IH (l.length - (i + 1)) (by omega) (l.drop (i + 1)) k (by rw [List.length_drop]; omega) (by omega) (by omega)
    have hd := List.drop_eq_getElem_cons hi
    rw [hd, cho_cons, List.length_append, List.length_map] at ha
    rw [hd, cho_cons]
    simp only [impl_subsetsOf.l0, Ev.ite_iff, h1, h3, h4, ↓reduceIte, w64_succ i (show i < 9223372036854775807 by omega), e1, Int.toNat_natCast]
    rw [Ev.bind_iff hrec]
    have hml := cho_mem_len (l.drop (i + 1)) k
    generalize cho (l.drop (i + 1)) k = T at ha hml ⊢
    have G := down T.length (fun j => Ev (fun g => impl_subsetsOf.l1 g l ((k + 1 : Nat) : Int) (acc ++ (T.take j).map (fun t => l[i] :: t)) i l.length i T T.length j) (acc ++ (T.map (fun t => l[i] :: t) ++ cho (l.drop (i + 1)) (k + 1)))) ?_ ?_ 0 (by omega)
    · simpa using G
    · show Ev _ _
      rw [Ev.iff_succ]
      simp only [impl_subsetsOf.l1, Int.lt_irrefl, ↓reduceIte, w64_succ i (show i < 9223372036854775807 by omega), List.take_length]
      rw [← List.append_assoc]
      exact ih _ (by rw [List.length_append, List.length_map]; omega)
    · intro j hj jh
      show Ev _ _
      rw [Ev.iff_succ]
      have g1 : (j : Int) < T.length := by omega
      have g2 : (0 : Int) ≤ j := by omega
      have hTl := hml T[j] (List.getElem_mem hj)
      have g3 : [l[i]].length + T[j].length < 17592186044416 := by simp; omega
      have g4 : (acc ++ (T.take j).map (fun t => l[i] :: t)).length < 5864062014805 := by
        rw [List.length_append, List.length_map, List.length_take]; omega
      rw [List.take_succ_eq_append_getElem hj, List.map_append, ← List.append_assoc] at jh
      simp only [impl_subsetsOf.l1, Ev.ite_iff, g1, g2, h1, h2, ↓reduceIte, Option.bind_some, rd_lt l i hi, rdL2_lt T j hj, g3, g4, w64_succ j (show j < 9223372036854775807 by omega)]
      exact jh

theorem l8Choices_ev : ∀ (m : Nat) (l : List Int) (k : Nat), l.length ≤ m → m ≤ 8 → k ≤ l.length → Ev (fun g => spec_l8Choices.f g l k) (cho l k) := by
  intro m
  induction m using Nat.strongRecOn with
  | _ m IH =>
  intro l k hlm hm hk
  rw [Ev.iff_succ]
  simp only [spec_l8Choices.f]
  cases k with
  | zero => rw [Ev.ite_iff, if_pos (by omega), Ev.now_iff, cho_zero]
  | succ k =>
  rw [Ev.ite_iff, if_neg (by omega)]
  have hp : 2 ^ l.length ≤ 256 := p8 (by omega)
  have H := down (l.length - k) (fun i => ∀ acc : List (List Int), acc.length + (cho (l.drop i) (k + 1)).length ≤ 256 → Ev (fun g => spec_l8Choices.l0 g l ((k + 1 : Nat) : Int) acc i) (acc ++ cho (l.drop i) (k + 1))) ?_ ?_ 0 (by omega) [] (by have := cho_len l (k + 1); simp; omega)
  · simpa using H
  · intro acc _
    rw [Ev.iff_succ]
    have e0 : wrap64 (((l.length - k : Nat) : Int) + ((k + 1 : Nat) : Int)) = (l.length : Int) + 1 := by rw [w64] <;> omega
    simp only [spec_l8Choices.l0, e0, Ev.ite_iff, Ev.now_iff]
    rw [if_neg (by omega), cho_nil _ _ (by rw [List.length_drop]; omega), List.append_nil]
  · intro i hi ih acc ha
    rw [Ev.iff_succ]
    have hil : i < l.length := by omega
    have h1 : (i : Int) < l.length := by omega
    have h2 : (0 : Int) ≤ i := by omega
    have h3 : (0 : Int) ≤ ((i + 1 : Nat) : Int) := by omega
    have h4 : ((i + 1 : Nat) : Int) ≤ l.length := by omega
    have e0 : wrap64 ((i : Int) + ((k + 1 : Nat) : Int)) = (i : Int) + ((k + 1 : Nat) : Int) := by rw [w64] <;> omega
    have h5 : (i : Int) + ((k + 1 : Nat) : Int) ≤ (l.length : Int) := by omega
    have e1 : wrap64 (((k + 1 : Nat) : Int) - 1) = (k : Int) := by rw [w64] <;> omega
    have hrec := IH (l.length - (i + 1)) (by omega) (l.drop (i + 1)) k (by rw [List.length_drop]; omega) (by omega) (by rw [List.length_drop]; omega)
    have hd := List.drop_eq_getElem_cons hil
    rw [hd, cho_cons, List.length_append, List.length_map] at ha
    rw [hd, cho_cons]
    simp only [spec_l8Choices.l0, e0, Ev.ite_iff, h3, h4, h5, ↓reduceIte, w64_succ i (show i < 9223372036854775807 by omega), e1, Int.toNat_natCast]
    rw [Ev.bind_iff hrec]
    have hml := cho_mem_len (l.drop (i + 1)) k
    generalize cho (l.drop (i + 1)) k = T at ha hml ⊢
    have G := down T.length (fun j => Ev (fun g => spec_l8Choices.l1 g l ((k + 1 : Nat) : Int) (acc ++ (T.take j).map (fun t => l[i] :: t)) i T j) (acc ++ (T.map (fun t => l[i] :: t) ++ cho (l.drop (i + 1)) (k + 1)))) ?_ ?_ 0 (by omega)
    · simpa using G
    · show Ev _ _
      rw [Ev.iff_succ]
      simp only [spec_l8Choices.l1, Int.lt_irrefl, ↓reduceIte, w64_succ i (show i < 9223372036854775807 by omega), List.take_length]
      rw [← List.append_assoc]
      exact ih _ (by rw [List.length_append, List.length_map]; omega)
    · intro j hj jh
      show Ev _ _
      rw [Ev.iff_succ]
      have g1 : (j : Int) < T.length := by omega
      have g2 : (0 : Int) ≤ j := by omega
      have hTl := hml T[j] (List.getElem_mem hj)
      have g3 : [l[i]].length + T[j].length < 17592186044416 := by simp; omega
      have g4 : (acc ++ (T.take j).map (fun t => l[i] :: t)).length < 5864062014805 := by
        rw [List.length_append, List.length_map, List.length_take]; omega
      rw [List.take_succ_eq_append_getElem hj, List.map_append, ← List.append_assoc] at jh
      simp only [spec_l8Choices.l1, Ev.ite_iff, g1, g2, h1, h2, ↓reduceIte, Option.bind_some, rd_lt l i hil, rdL2_lt T j hj, g3, g4, w64_succ j (show j < 9223372036854775807 by omega)]
      exact jh

theorem eqIntSS_refl (L : List (List Int)) (hL : L.length ≤ 9223372036854775807) (hr : ∀ r ∈ L, r.length ≤ 9223372036854775807) : Ev (fun k => laws_eqIntSS.f k L L) true := by
  unfold laws_eqIntSS.f
  rw [Ev.ite_iff, if_pos rfl]
  have H := down L.length (fun i => Ev (fun k => laws_eqIntSS.l0 k L L i) true) ?_ ?_ 0 (by omega)
  · simpa using H
  · show Ev _ _
    rw [Ev.iff_succ]
    simp [laws_eqIntSS.l0, Ev.now_iff]
  · intro i hi ih
    show Ev _ _
    rw [Ev.iff_succ]
    have h1 : (i : Int) < L.length := by omega
    have h2 : (0 : Int) ≤ i := by omega
    have hri := hr L[i] (List.getElem_mem hi)
    simp only [laws_eqIntSS.l0, Ev.ite_iff, h1, h2, ↓reduceIte, w64_succ i (by omega), rdL2_lt L i hi]
    rw [Ev.bind_iff (eqIntS_refl L[i] hri)]
    simp only [↓reduceIte]
    exact ih

/-- Rows of numbers one behind the other, as long as told. -/
def upSS : Int → List Nat → List (List Int)
  | _, [] => []
  | a, c :: cs => upF a c :: upSS (a + (c : Int)) cs

theorem upSS_len : ∀ (cs : List Nat) (a : Int), (upSS a cs).length = cs.length
  | [], _ => rfl
  | c :: cs, a => by simp [upSS, upSS_len cs]

theorem upSS_snoc : ∀ (cs : List Nat) (a : Int) (c : Nat), upSS a (cs ++ [c]) = upSS a cs ++ [upF (a + (cs.sum : Nat)) c]
  | [], a, c => by simp [upSS]
  | d :: cs, a, c => by
    rw [List.cons_append, upSS, upSS, upSS_snoc cs, List.sum_cons, List.cons_append]
    rw [show a + (d : Int) + ((cs.sum : Nat) : Int) = a + ((d + cs.sum : Nat) : Int) by omega]

theorem upSS_get : ∀ (cs : List Nat) (a : Int) (i : Nat) (h : i < cs.length) (h' : i < (upSS a cs).length), (upSS a cs)[i] = upF (a + ((cs.take i).sum : Nat)) cs[i]
  | c :: cs, a, 0, h, h' => by simp [upSS]
  | c :: cs, a, i + 1, h, h' => by
    simp only [upSS, List.getElem_cons_succ, List.take_succ_cons, List.sum_cons]
    rw [upSS_get cs (a + c) i (by simpa using h) (by rw [upSS_len]; simpa using h)]
    rw [show a + (c : Int) + (((cs.take i).sum : Nat) : Int) = a + ((c + (cs.take i).sum : Nat) : Int) by omega]

theorem sum_take_succ (cs : List Nat) (i : Nat) (h : i < cs.length) : (cs.take (i + 1)).sum = (cs.take i).sum + cs[i] := by
  rw [List.take_succ_eq_append_getElem h, List.sum_append]; simp

theorem sum_take_le (cs : List Nat) : ∀ i : Nat, (cs.take i).sum ≤ cs.sum := by
  intro i
  have h := List.take_append_drop i cs
  have h2 := congrArg List.sum h
  rw [List.sum_append] at h2
  omega

theorem markIntSS_ev (L : List (List Int)) (a : Int) (ha : 0 ≤ a) (hL : L.length < 9223372036854775807) (h : a + ((L.map List.length).sum : Nat) < 9223372036854775807) :
    Ev (fun k => laws_markIntSS.f k L a) (a + ((L.map List.length).sum : Nat), upSS a (L.map List.length)) := by
  have hcl : (L.map List.length).length = L.length := by simp
  have hcg : ∀ i (hi : i < L.length), (L.map List.length)[i]'(by rw [hcl]; exact hi) = L[i].length := fun i hi => by simp
  generalize hcs : L.map List.length = cs at h hcl hcg ⊢
  have H := down L.length (fun i => Ev (fun k => laws_markIntSS.l0 k (upSS a (cs.take i) ++ L.drop i) (a + ((cs.take i).sum : Nat)) i) (a + (cs.sum : Nat), upSS a cs)) ?_ ?_ 0 (by omega)
  · simpa [laws_markIntSS.f, upSS] using H
  · show Ev _ _
    rw [Ev.iff_succ]
    simp only [List.drop_length, List.append_nil, List.take_of_length_le (show cs.length ≤ L.length by omega), laws_markIntSS.l0, upSS_len, hcl, Int.lt_irrefl, ↓reduceIte, Ev.now_iff]
  · intro i hi ih
    show Ev _ _
    rw [Ev.iff_succ]
    have hic : i < cs.length := by omega
    have hut : (upSS a (cs.take i)).length = i := by rw [upSS_len, List.length_take]; omega
    have h0 : ((upSS a (cs.take i) ++ L.drop i).length : Int) = L.length := by rw [List.length_append, hut, List.length_drop]; omega
    have h1 : (i : Int) < L.length := by omega
    have h2 : (0 : Int) ≤ i := by omega
    have h3 : rd_L2 (upSS a (cs.take i) ++ L.drop i) i = L[i] := by
      rw [rdL2_lt _ i (by rw [List.length_append, hut, List.length_drop]; omega), List.getElem_append_right (by omega)]
      simp [hut]
    have hs := sum_take_succ cs i hic
    have hsl := sum_take_le cs (i + 1)
    have hli := hcg i hi
    have h5 : (upSS a (cs.take i) ++ L.drop i).set i (upF (a + ((cs.take i).sum : Nat)) L[i].length) = upSS a (cs.take (i + 1)) ++ L.drop (i + 1) := by
      rw [List.drop_eq_getElem_cons hi, List.set_append_right _ _ (by omega), hut, Nat.sub_self, List.set_cons_zero, List.take_succ_eq_append_getElem hic, upSS_snoc, List.append_assoc, hli]; rfl
    simp only [laws_markIntSS.l0, Ev.ite_iff, h0, h1, h2, ↓reduceIte, h3]
    rw [Ev.bind_iff (markIntS_ev L[i] _ (by omega) (by omega))]
    simp only [w64_succ i (show i < 9223372036854775807 by omega), Int.toNat_natCast, h5]
    rw [show a + ((cs.take i).sum : Nat) + ((L[i].length : Nat) : Int) = a + ((cs.take (i + 1)).sum : Nat) by omega]
    exact ih

theorem heldIntSS_ev (a : Int) (cs : List Nat) (ha : 0 ≤ a) (hl : cs.length < 9223372036854775807) (h : a + (cs.sum : Nat) < 9223372036854775807) : Ev (fun k => laws_heldIntSS.f k (upSS a cs) a) (a + (cs.sum : Nat)) := by
  have H := down cs.length (fun i => Ev (fun k => laws_heldIntSS.l0 k (upSS a cs) (a + ((cs.take i).sum : Nat)) i) (a + (cs.sum : Nat))) ?_ ?_ 0 (by omega)
  · simpa [laws_heldIntSS.f] using H
  · show Ev _ _
    rw [Ev.iff_succ]
    simp only [List.take_length]
    simp [laws_heldIntSS.l0, Ev.now_iff, upSS_len]
  · intro i hi ih
    show Ev _ _
    rw [Ev.iff_succ]
    have h1 : (i : Int) < ((upSS a cs).length : Int) := by rw [upSS_len]; omega
    have h2 : (0 : Int) ≤ i := by omega
    have hs := sum_take_succ cs i hi
    have hsl := sum_take_le cs (i + 1)
    have h3 : rd_L2 (upSS a cs) i = upF (a + ((cs.take i).sum : Nat)) cs[i] := by
      rw [rdL2_lt _ i (by rw [upSS_len]; exact hi), upSS_get cs a i hi]
    simp only [laws_heldIntSS.l0, Ev.ite_iff, h1, h2, ↓reduceIte, h3]
    rw [Ev.bind_iff (heldIntS_ev _ cs[i] (by omega) (by omega)), Ev.ite_iff, if_neg (by omega)]
    rw [w64_succ i (by omega), show a + ((cs.take i).sum : Nat) + ((cs[i] : Nat) : Int) = a + ((cs.take (i + 1)).sum : Nat) by omega]
    exact ih

def guardSetsR (n : Int) (es : List S93) (a : Int) : List (List Int) × Bool := if (okG n es && decide (0 ≤ a ∧ a ≤ n)) = true then (cho (bl n.toNat (2 ^ n.toNat - 1)) a.toNat, true) else ([], false)

theorem sum_le_mul : ∀ (L : List (List Int)) (c : Nat), (∀ r ∈ L, r.length ≤ c) → (L.map List.length).sum ≤ L.length * c
  | [], _, _ => by simp
  | r :: L, c, h => by
    have h1 := sum_le_mul L c (fun s hs => h s (by simp [hs]))
    have h2 := h r (by simp)
    rw [List.map_cons, List.sum_cons, List.length_cons, Nat.succ_mul]
    omega

theorem guardSetsR_len (n : Int) (es : List S93) (a : Int) : (guardSetsR n es a).1.length ≤ 1048576 ∧ (∀ r ∈ (guardSetsR n es a).1, r.length ≤ 1048576) ∧ ((guardSetsR n es a).1.map List.length).sum ≤ 1099511627776 := by
  unfold guardSetsR
  split
  · rename_i h
    simp only [Bool.and_eq_true, decide_eq_true_eq] at h
    obtain ⟨N, rfl, hN⟩ := okG_use h.1
    have hb := bl_len_le N (2 ^ N - 1)
    have h1 := cho_len (bl N (2 ^ N - 1)) a.toNat
    have h2 := p8 (show (bl N (2 ^ N - 1)).length ≤ 8 by omega)
    have h3 : ∀ r ∈ cho (bl N (2 ^ N - 1)) a.toNat, r.length ≤ 8 := fun r hr => by rw [cho_mem_len _ _ r hr]; omega
    have h4 := sum_le_mul _ 8 h3
    simp only [Int.toNat_natCast]
    exact ⟨by omega, fun r hr => by have := h3 r hr; omega, by omega⟩
  · simp

theorem specGuardSets_ev (n : Int) (es : List S93) (a : Int) (_ : (Lit.int .i64 a).wf = true) (_ : es.length ≤ 9223372036854775807) : Ev (fun k => spec_GuardSets.f k n es a) (guardSetsR n es a) := by
  unfold spec_GuardSets.f guardSetsR
  have hgood : spec_l10Good.f n es a = some (okG n es && decide (0 ≤ a ∧ a ≤ n)) := by
    unfold spec_l10Good.f
    rw [l2Good_eq]
    simp only [Option.bind_some, l1In_eq]
    cases okG n es <;> simp
  rw [hgood]
  simp only [Option.bind_some, Ev.ite_iff]
  by_cases h : (okG n es && decide (0 ≤ a ∧ a ≤ n)) = true
  · rw [if_pos h, if_pos h]
    simp only [Bool.and_eq_true, decide_eq_true_eq] at h
    obtain ⟨N, rfl, hN⟩ := okG_use h.1
    obtain ⟨K, rfl⟩ : ∃ K : Nat, a = K := ⟨a.toNat, by omega⟩
    have hf := (bl_len_full N hN (2 ^ N - 1) (by have := Nat.two_pow_pos N; omega)).2 rfl
    have hB : Ev (fun k => spec_l10Sets.f k N es K) (cho (bl N (2 ^ N - 1)) K) := by
      unfold spec_l10Sets.f
      rw [Ev.bind_iff (l2All_ev (es := es) hN), Ev.bind_iff (l8Choices_ev N _ K (by omega) hN (by omega)), Ev.now_iff]
    rw [Ev.bind_iff hB, Ev.now_iff]
    simp only [Int.toNat_natCast]
  · rw [if_neg h, if_neg h, Ev.now_iff]

theorem implGuardSets_ev (n : Int) (es : List S93) (a : Int) (_ : (Lit.int .i64 a).wf = true) : Ev (fun k => impl_GuardSets.f k n es a) (guardSetsR n es a) := by
  unfold impl_GuardSets.f guardSetsR
  rw [IsGraph_eq]
  simp only [Option.bind_some, Ev.ite_iff]
  by_cases hg : okG n es = true
  case neg => rw [if_neg hg, if_neg (by simp [hg]), Ev.now_iff]
  rw [if_pos hg, within_eq]
  simp only [Option.bind_some, Ev.ite_iff]
  by_cases hd : 0 ≤ a ∧ a ≤ n
  case neg => rw [if_neg (by simpa using hd), if_neg (by simp [hd]), Ev.now_iff]
  rw [if_pos (by simpa using hd), if_pos (by simp [hg, hd])]
  obtain ⟨N, rfl, hN⟩ := okG_use hg
  obtain ⟨K, rfl⟩ : ∃ K : Nat, a = K := ⟨a.toNat, by omega⟩
  have hbl := bl_len_le N (2 ^ N - 1)
  have hB : Ev (fun k => impl_guardSets.f k N K) (cho (bl N (2 ^ N - 1)) K) := by
    unfold impl_guardSets.f
    rw [Ev.ite_iff, if_pos (by omega), mask_all N hN, Ev.bind_iff (setOf_ev N _ hN (by have := Nat.two_pow_pos N; omega)), Ev.bind_iff (subsetsOf_ev 8 _ K (by omega) (by omega) (by omega)), Ev.now_iff]
  rw [Ev.bind_iff hB, Ev.now_iff]
  simp only [Int.toNat_natCast]

theorem FnExactGuardSets_pure (n : Int) (es : List S93) (a : Int) (he : es.length ≤ 9223372036854775807) (ha : (Lit.int .i64 a).wf = true) : Ev (fun k => laws_FnExactGuardSets.f k n es a) true := by
  unfold laws_FnExactGuardSets.f
  rw [szGraph_eq n es (by omega)]
  simp only [Option.bind_some, Ev.ite_iff]
  by_cases hs : es.length ≤ 1048576
  case neg => rw [if_neg hs, if_pos (by omega), Ev.now_iff]
  rw [if_pos hs, if_neg (by omega)]
  have hg := toGraph_ev n es (by omega)
  obtain ⟨hR1, hR2, hR3⟩ := guardSetsR_len n es a
  have hS := specGuardSets_ev n es a ha (by omega)
  have hI := implGuardSets_ev n es a ha
  generalize guardSetsR n es a = R at hR1 hR2 hR3 hS hI
  rw [Ev.bind_iff hg, Ev.bind_iff hS, Ev.bind_iff hg, Ev.bind_iff hI]
  have hq := eqIntSS_refl R.1 (by omega) (fun r hr => by have := hR2 r hr; omega)
  rw [Ev.bind_iff hq]
  simp only [bne_self_eq_false, Bool.false_eq_true, ↓reduceIte]
  rw [Ev.iff_succ]
  simp only [laws_FnExactGuardSets.j0, Bool.false_eq_true, ↓reduceIte]
  rw [Ev.bind_iff hg, Ev.bind_iff (eqGraph_refl n es he)]
  simp only [↓reduceIte]
  obtain ⟨rm, hm⟩ := markGraph_eq n es 1 (by omega) (by omega)
  rw [hm]
  simp only [Option.bind_some]
  rw [Ev.ite_iff, if_neg (by omega), Ev.bind_iff hq]
  simp only [bne_self_eq_false, ↓reduceIte]
  rw [Ev.iff_succ]
  simp only [laws_FnExactGuardSets.j1, Bool.false_eq_true, ↓reduceIte]
  rw [Ev.bind_iff (markIntSS_ev R.1 1 (by omega) (by omega) (by omega))]
  simp only []
  rw [Ev.bind_iff (heldIntSS_ev 1 (R.1.map List.length) (by omega) (by rw [List.length_map]; omega) (by omega)), Ev.ite_iff, if_neg (by omega)]
  simp only [↓reduceIte]
  rw [Ev.bind_iff hg, Ev.bind_iff hI, Ev.bind_iff hq]
  simp only [bne_self_eq_false, ↓reduceIte]
  rw [Ev.iff_succ]
  simp only [laws_FnExactGuardSets.j2, Bool.false_eq_true, ↓reduceIte]
  rw [Ev.bind_iff (heldIntSS_ev 1 (R.1.map List.length) (by omega) (by rw [List.length_map]; omega) (by omega)), Ev.ite_iff, if_neg (by omega)]
  simp only [↓reduceIte, Ev.now_iff]

end Go.Proofs.Ytldenbmaifogeaa.QGuardSets
