import Derived.Test.YtheplhphonfckaaQIsDominatingA1
namespace Go.Proofs.Ytheplhphonfckaa.QIsDominating
open Go.RowKit Go.Proofs.YtheplhphonfckaaW.PrintWords Go.Proofs.YtheplhphonfckaaW.PrintLast Go.Proofs.YtheplhphonfckaaW.PrintMore
attribute [local go_sem] max2_int min2_int max_two min_two max_three min_three max_four min_four   -- for this text's walks alone
set_option linter.unusedVariables false
set_option linter.unusedSimpArgs false
--# eqGraph
theorem eqIntA2_refl (a b : Int) : laws_eqIntA2.f a b a b = some true := by simp [laws_eqIntA2.f]
theorem eqGraph_refl (n : Int) (es : List S72) (hl : es.length ≤ 9223372036854775807) : Ev (fun k => laws_eqGraph.f k n es n es) true := by
  have H0 : Ev (fun k => laws_eqIntA2S.f k es es) true := by
    unfold laws_eqIntA2S.f
    rw [Ev.ite_iff, if_pos rfl]
    have H := down es.length (fun i => Ev (fun k => laws_eqIntA2S.l0 k es es i) true) ?_ ?_ 0 (by omega)
    · simpa using H
    · show Ev _ _
      rw [Ev.iff_succ]
      simp [laws_eqIntA2S.l0, Ev.now_iff]
    · intro i hi ih
      show Ev _ _
      rw [Ev.iff_succ]
      have h1 : (i : Int) < es.length := by omega
      have h2 : (0 : Int) ≤ i := by omega
      simp only [laws_eqIntA2S.l0, Ev.ite_iff, h1, h2, ↓reduceIte, w64_succ i (by omega), eqIntA2_refl, Option.bind_some]
      exact ih
  unfold laws_eqGraph.f
  rw [Ev.ite_iff, if_pos rfl, Ev.bind_iff H0, Ev.ite_iff, if_pos rfl, Ev.now_iff]


--# szGraph
theorem szGraph_eq (n : Int) (es : List S72) (hl : es.length ≤ 9223372036854775807) : laws_szGraph.f n es 1048576 = some (if es.length ≤ 1048576 then 1048576 - (es.length : Int) else -1) := by
  unfold laws_szGraph.f laws_szIntA2S.f
  rw [w64 (by omega) (by omega)]
  by_cases h : es.length ≤ 1048576
  · rw [if_neg (by omega), if_pos h, Option.bind_some, if_neg (by omega)]
  · rw [if_pos (by omega), if_neg h, Option.bind_some, if_pos (by omega)]


--# setB
/-- A graph is valid and a list is a set of its nodes. -/
def setB (n : Int) (es : List S72) (l : List Int) : Bool := okG n es && (allIn 0 (wrap64 (n - 1)) l && ascB none l)
theorem setB_use {n : Int} {es : List S72} {l : List Int} (h : setB n es l = true) : ∃ N m : Nat, n = N ∧ N ≤ 8 ∧ okG N es = true ∧ (∀ e ∈ es, edgeOk N e = true) ∧ m < 2 ^ N ∧ l = bl N m ∧ mL l = m := by
  simp only [setB, Bool.and_eq_true] at h
  obtain ⟨h1, h2, h3⟩ := h
  have h4 := h1
  simp only [okG, Bool.and_eq_true, decide_eq_true_eq] at h4
  obtain ⟨N, rfl⟩ : ∃ N : Nat, n = N := ⟨n.toNat, by omega⟩
  rw [w64 (by omega) (by omega)] at h2
  have h5 : ∀ x ∈ l, 0 ≤ x ∧ x < (N : Int) := fun x hx => by
    simp only [allIn, List.all_eq_true, decide_eq_true_eq] at h2
    have := h2 x hx
    omega
  exact ⟨N, mL l, rfl, by omega, h1, goodL_all h4.2, mL_lt h5, bl_of_asc h2 h3, rfl⟩


--# l2Good
theorem l2Good_eq (n : Int) (es : List S72) : spec_l2Good.f n es = some (okG n es) := rfl


--# IsGraph
theorem IsGraph_eq (n : Int) (es : List S72) : impl_IsGraph.f n es = some (okG n es) := rfl


--# l2Set
theorem l2Set_ev (n : Int) (es : List S72) (l : List Int) (hl : l.length ≤ 9223372036854775807) : Ev (fun k => spec_l2Set.f k n es l) (allIn 0 (wrap64 (n - 1)) l && ascB none l) := by
  unfold spec_l2Set.f
  rw [Ev.bind_iff (l1Rising_ev l 0 _ hl), Ev.now_iff]


--# isSet
theorem hasNodes_ev (n : Int) (es : List S72) (l : List Int) (hl : l.length ≤ 9223372036854775807) : Ev (fun k => impl_hasNodes.f k n es l) (okG n es && allIn 0 (wrap64 (n - 1)) l) := by
  unfold impl_hasNodes.f
  rw [IsGraph_eq]
  simp only [Option.bind_some, Ev.ite_iff]
  split
  · rename_i h
    rw [Ev.bind_iff (allWithin_ev l 0 _ hl), Ev.now_iff, h, Bool.true_and]
  · rename_i h
    rw [Ev.now_iff, Bool.eq_false_iff.2 h, Bool.false_and]
theorem isSet_ev (n : Int) (es : List S72) (l : List Int) (hl : l.length ≤ 9223372036854775807) : Ev (fun k => impl_isSet.f k n es l) (setB n es l) := by
  unfold impl_isSet.f
  rw [Ev.bind_iff (hasNodes_ev n es l hl), Ev.ite_iff]
  unfold setB
  split
  · rename_i h
    rw [Ev.bind_iff (increasing_ev l hl), Ev.now_iff, ← Bool.and_assoc, h, Bool.true_and]
  · rename_i h
    rw [Ev.now_iff, ← Bool.and_assoc, Bool.eq_false_iff.2 h, Bool.false_and]


--# maskOf
theorem maskOf_ev (l : List Int) (hl : l.length ≤ 9223372036854775807) (h : ∀ x ∈ l, 0 ≤ x ∧ x < 8) : Ev (fun k => impl_maskOf.f k l) ((mL l : Nat) : Int) := by
  have hm : ∀ s : List Int, (∀ x ∈ s, 0 ≤ x ∧ x < 8) → mL s < 2 ^ 8 := fun s hs => mL_lt (n := 8) hs
  have H := down l.length (fun i => ∀ acc : Nat, acc < 2 ^ 8 → Ev (fun k => impl_maskOf.l0 k acc l l.length i) ((acc ||| mL (l.drop i) : Nat) : Int)) ?_ ?_ 0 (by omega) 0 (by decide)
  · simpa [impl_maskOf.f] using H
  · intro acc _
    rw [Ev.iff_succ]
    simp [impl_maskOf.l0, Ev.now_iff, mL]
  · intro i hi ih acc ha
    rw [Ev.iff_succ]
    have h1 : (i : Int) < l.length := by omega
    have h2 : (0 : Int) ≤ i := by omega
    have hx := h l[i] (List.getElem_mem hi)
    obtain ⟨a, s, e1, e2, e3, e4⟩ := dropc l i hi
    rw [e4] at hx
    obtain ⟨x, rfl⟩ : ∃ x : Nat, a = x := ⟨a.toNat, by omega⟩
    have hp : 2 ^ x < 2 ^ 8 := Nat.pow_lt_pow_right (by decide) (by omega)
    have h62 : ∀ {c : Nat}, c < 2 ^ 8 → c < 2 ^ 62 := fun h => by omega
    simp only [impl_maskOf.l0, Ev.ite_iff, h1, h2, hx.1, ↓reduceIte, w64_succ i (by omega), e3]
    rw [shl_one (by omega), gor _ _ (h62 ha) (h62 hp)]
    have := ih (acc ||| 2 ^ x) (Nat.or_lt_two_pow ha hp)
    rw [e2] at this
    rw [e1, mL, Int.toNat_natCast, ← Nat.or_assoc]
    exact this


--# all
theorem all_eq {es : List S72} {n : Nat} (h : n ≤ 8) : impl_net_all.f (nets es n) = some ((2 ^ n - 1 : Nat) : Int) := by
  unfold impl_net_all.f
  rw [nets_len, mask_all n h]
theorem bl_range {n m : Nat} (hn : n ≤ 8) : ∀ x ∈ bl n m, 0 ≤ x ∧ x < 8 := fun x hx => by
  obtain ⟨i, h1, _, rfl⟩ := mem_bl.1 hx; omega

--# IsDominating
def dominatingR (n : Int) (es : List S72) (l : List Int) : Bool × Bool := if setB n es l then (decide (aroM es n.toNat (mL l) = 2 ^ n.toNat - 1), true) else (false, false)
theorem specIsDominating_ev (n : Int) (es : List S72) (l : List Int) (hl : l.length ≤ 9223372036854775807) (he : es.length ≤ 9223372036854775807) : Ev (fun k => spec_IsDominating.f k n es l) (dominatingR n es l) := by
  unfold spec_IsDominating.f dominatingR
  rw [l2Good_eq]
  simp only [Option.bind_some, Ev.ite_iff, Ev.bind_iff (l2Set_ev n es l hl), Ev.now_iff]
  by_cases h1 : okG n es = true
  · by_cases h2 : (allIn 0 (wrap64 (n - 1)) l && ascB none l) = true
    · have h : setB n es l = true := by simp only [setB, h1, h2, Bool.and_self]
      simp only [h, h1, h2, ↓reduceIte]
      obtain ⟨N, m, rfl, hN, hg, hok, hm, rfl, hml⟩ := setB_use h
      rw [Ev.bind_iff (l10Dominates_ev es N m hN hm he), Ev.now_iff, hml, Int.toNat_natCast]
    · have h : ¬ setB n es l = true := by simp only [setB, h1, h2, Bool.true_and, Bool.false_eq_true, not_false_eq_true]
      simp only [h, h1, h2, Bool.false_eq_true, ↓reduceIte]
  · have h : ¬ setB n es l = true := by simp only [setB, h1, Bool.false_and, Bool.false_eq_true, not_false_eq_true]
    simp only [h, h1, Bool.false_eq_true, ↓reduceIte]
theorem implIsDominating_ev (n : Int) (es : List S72) (l : List Int) (hl : l.length ≤ 9223372036854775807) : Ev (fun k => impl_IsDominating.f k n es l) (dominatingR n es l) := by
  unfold impl_IsDominating.f dominatingR
  rw [Ev.bind_iff (isSet_ev n es l hl), Ev.ite_iff]
  split
  · rename_i h
    obtain ⟨N, m, rfl, hN, hg, hok, hm, hlm, hml⟩ := setB_use h
    have hr : ∀ x ∈ l, 0 ≤ x ∧ x < 8 := by rw [hlm]; exact bl_range hN
    rw [netOf_eq hg]
    simp only [Option.bind_some]
    rw [Ev.bind_iff (maskOf_ev l hl hr), hml, Ev.bind_iff (around_ev es N m hN hm), all_eq hN]
    simp only [Option.bind_some, Ev.now_iff, Int.toNat_natCast]
    congr 1
    rw [Bool.eq_iff_iff]
    simp only [beq_iff_eq, decide_eq_true_eq]
    omega
  · rw [Ev.now_iff]

--# FnExactIsDominating
theorem FnExactIsDominating_pure (n : Int) (es : List S72) (l : List Int) (he : es.length ≤ 9223372036854775807) (hl : l.length ≤ 9223372036854775807) : Ev (fun k => laws_FnExactIsDominating.f k n es l) true := by
  unfold laws_FnExactIsDominating.f
  rw [Ev.ite_iff]
  by_cases h1 : (l.length : Int) > 1048576
  · rw [if_pos h1, Ev.now_iff]
  rw [if_neg h1, szGraph_eq n es (by omega)]
  simp only [Option.bind_some, Ev.ite_iff]
  by_cases hs : es.length ≤ 1048576
  case neg => rw [if_neg hs, if_pos (by omega), Ev.now_iff]
  rw [if_pos hs, if_neg (by omega)]
  have hg := toGraph_ev n es (by omega)
  have hi := toIntS_ev l (by omega)
  rw [Ev.bind_iff hg, Ev.bind_iff hi, Ev.bind_iff (specIsDominating_ev n es l (by omega) he), Ev.bind_iff hg, Ev.bind_iff hi, Ev.bind_iff (implIsDominating_ev n es l hl)]
  simp only [bne_self_eq_false, Bool.false_eq_true, ↓reduceIte]
  rw [Ev.iff_succ]
  simp only [laws_FnExactIsDominating.j0, Bool.false_eq_true, ↓reduceIte]
  rw [Ev.bind_iff hg, Ev.bind_iff (eqGraph_refl n es he), Ev.ite_iff, if_pos rfl, Ev.bind_iff hi, Ev.bind_iff (eqIntS_refl l hl), Ev.ite_iff, if_pos rfl, Ev.now_iff]

end Go.Proofs.Ytheplhphonfckaa.QIsDominating
