import Derived.Test.YtfeaddkaommpgacQPowerAll0
import Derived.Test.YtfeaddkaommpgacQPowerAll1
import Derived.Test.YtfeaddkaommpgacQPowerAll10
import Derived.Test.YtfeaddkaommpgacQPowerAll12
import Derived.Test.YtfeaddkaommpgacQPowerAll13
import Derived.Test.YtfeaddkaommpgacQPowerAll2
import Derived.Test.YtfeaddkaommpgacQPowerAll8
import Derived.Test.YtfeaddkaommpgacQPowerAllA2
namespace Go.Proofs.Ytfeaddkaommpgac.QPowerAll
open Go.RowKit Go.Proofs.YtfeaddkaommpgacW.PrintWords Go.Proofs.YtfeaddkaommpgacW.PrintLast Go.Proofs.YtfeaddkaommpgacW.PrintMore
attribute [local go_sem] max2_int min2_int max_two min_two max_three min_three max_four min_four   -- for this text's walks alone
set_option linter.unusedVariables false
set_option linter.unusedSimpArgs false
--# markIntS
theorem markIntS_ev (l : List Int) (a : Int) (ha : 0 ≤ a) (h : a + l.length < 9223372036854775807) : Ev (fun k => laws_markIntS.f k l a) (a + (l.length : Int), upF a l.length) := by
  have H := down l.length (fun i => Ev (fun k => laws_markIntS.l0 k (upF a i ++ l.drop i) (a + (i : Int)) i) (a + (l.length : Int), upF a l.length)) ?_ ?_ 0 (by omega)
  · simpa [laws_markIntS.f, upF] using H
  · show Ev _ _
    rw [Ev.iff_succ]
    simp [laws_markIntS.l0, Ev.now_iff, upF_len]
  · intro i hi ih
    show Ev _ _
    rw [Ev.iff_succ]
    have h0 : ((upF a i ++ l.drop i).length : Int) = l.length := by rw [List.length_append, upF_len, List.length_drop]; omega
    have h1 : (i : Int) < l.length := by omega
    have h2 : (0 : Int) ≤ i := by omega
    have h3 : (upF a i ++ l.drop i).set i (a + (i : Int)) = upF a (i + 1) ++ l.drop (i + 1) := by
      rw [List.drop_eq_getElem_cons hi, List.set_append_right _ _ (by rw [upF_len]; omega), upF_len, Nat.sub_self, List.set_cons_zero, upF_succ, List.append_assoc]; rfl
    have h4 : wrap64 (a + (i : Int) + 1) = a + ((i + 1 : Nat) : Int) := by rw [w64] <;> omega
    simp only [laws_markIntS.l0, Ev.ite_iff, h0, h1, h2, ↓reduceIte, w64_succ i (by omega), Int.toNat_natCast, h3, h4]
    exact ih


--# heldIntS
theorem heldIntS_ev (a : Int) (c : Nat) (ha : 0 ≤ a) (h : a + c < 9223372036854775807) : Ev (fun k => laws_heldIntS.f k (upF a c) a) (a + (c : Int)) := by
  have H := down c (fun i => Ev (fun k => laws_heldIntS.l0 k (upF a c) (a + (i : Int)) i) (a + (c : Int))) ?_ ?_ 0 (by omega)
  · simpa [laws_heldIntS.f] using H
  · show Ev _ _
    rw [Ev.iff_succ]
    simp [laws_heldIntS.l0, Ev.now_iff, upF_len]
  · intro i hi ih
    show Ev _ _
    rw [Ev.iff_succ]
    have h1 : (i : Int) < (c : Int) := by omega
    have h2 : (0 : Int) ≤ i := by omega
    have h4 : wrap64 (a + (i : Int) + 1) = a + ((i + 1 : Nat) : Int) := by rw [w64] <;> omega
    simp only [laws_heldIntS.l0, Ev.ite_iff, upF_len, h1, h2, ↓reduceIte, w64_succ i (by omega), upF_rd hi, h4]
    exact ih


--# markGraph
theorem markIntA2S_l0 (M : Int) (hM : M = 9223372036854775807) (d : Nat) : ∀ (l : List S81) (a : Int) (i : Nat), l.length = i + d → (l.length : Int) < M → 0 ≤ a → a + 2 * (d : Int) < M → ∃ r, laws_markIntA2S.l0 (d + 1) l a i = some (a + 2 * (d : Int), r) := by
  induction d with
  | zero =>
    intro l a i h _ _ _
    refine ⟨l, ?_⟩
    rw [laws_markIntA2S.l0, if_neg (by omega)]
    simp
  | succ d ih =>
    intro l a i h hl h0 h1
    have e1 : wrap64 (a + 1) = a + 1 := by rw [w64] <;> omega
    have e2 : wrap64 (a + 1 + 1) = a + 1 + 1 := by rw [w64] <;> omega
    have e3 : (i : Int) < (l.length : Int) := by omega
    have e4 : (0 : Int) ≤ i := by omega
    rw [laws_markIntA2S.l0, if_pos e3, if_pos e4, e1, e2, w64_succ i (by omega)]
    obtain ⟨r, hr⟩ := ih (l.set (i : Int).toNat ⟨a, a + 1⟩) (a + 1 + 1) (i + 1) (by rw [List.length_set]; omega) (by rw [List.length_set]; exact hl) (by omega) (by omega)
    exact ⟨r, by rw [hr]; congr 2; omega⟩
theorem markGraph_eq (n : Int) (l : List S81) (a : Int) (ha : 0 ≤ a) (h : a + 2 * (l.length : Int) < 9223372036854775807) : ∃ r, laws_markGraph.f n l a = some (a + 2 * (l.length : Int), r) := by
  obtain ⟨r, hr⟩ := markIntA2S_l0 _ rfl l.length l a 0 (by omega) (by omega) ha h
  exact ⟨r, by simp only [laws_markGraph.f, laws_markIntA2S.f]; rw [show ((0 : Nat) : Int) = 0 from rfl] at hr; rw [hr]; rfl⟩

--# setOf
theorem setOf_ev (n m : Nat) (hn : n ≤ 8) (hm : m < 2 ^ n) : Ev (fun k => impl_setOf.f k m) (bl n m) := by
  obtain ⟨t, ht⟩ : ∃ t, t = 9 := ⟨_, rfl⟩
  have hs : ∀ i, n ≤ i → m >>> i = 0 := fun i hi => by
    rw [Nat.shiftRight_eq_div_pow]; exact Nat.div_eq_of_lt (Nat.lt_of_lt_of_le hm (Nat.pow_le_pow_right (by decide) hi))
  have H := down n (fun i => Ev (fun k => impl_setOf.l0 k m (bl i m) i) (bl n m)) ?_ ?_ 0 (by omega)
  · simpa [impl_setOf.f, bl] using H
  · show Ev _ _
    rw [Ev.iff_succ]
    have h2 : (0 : Int) ≤ n := by omega
    simp [impl_setOf.l0, Ev.now_iff, h2, shr_nat m n (by omega), hs n (Nat.le_refl _)]
  · intro i hi ih
    show Ev _ _
    rw [Ev.iff_succ]
    have h2 : (0 : Int) ≤ i := by omega
    have h3 := bl_len_le i m
    have h4 : (bl i m).length < 17592186044416 := by omega
    have e3 := shr_bit m i (lt62 hn hm) (by omega)
    rw [bl_step hi] at ih
    simp only [impl_setOf.l0, Ev.ite_iff, h2, h4, ↓reduceIte, w64_succ i (by omega), e3]
    by_cases c : shr .i64 (m : Int) (i : Int) = 0
    · rw [if_pos c, Ev.now_iff]
      rw [shr_nat m i (by omega)] at c
      have c' : m >>> i = 0 := by omega
      have hb : ∀ j, i ≤ j → m.testBit j = false := fun j hj => by
        have : (m >>> i).testBit (j - i) = false := by rw [c']; simp
        rw [Nat.testBit_shiftRight] at this
        rwa [show i + (j - i) = j by omega] at this
      refine asc_ext (bl_asc _ _) (bl_asc _ _) (fun x => ?_)
      rw [mem_bl, mem_bl]
      constructor
      · rintro ⟨j, h1, h2, rfl⟩; exact ⟨j, by omega, h2, rfl⟩
      · rintro ⟨j, h1, h2, rfl⟩
        refine ⟨j, ?_, h2, rfl⟩
        by_cases hj : i ≤ j
        · rw [hb j hj] at h2; cases h2
        · omega
    · rw [if_neg c]
      cases c2 : m.testBit i
      · rw [c2] at ih; simpa using ih
      · rw [c2] at ih; simpa using ih

--# FnExactPowerAll
def powerAllR (n : Int) (es : List S81) (l : List Int) : List Int × Bool := if setB n es l then (bl n.toNat (closM es n.toNat false (aroM es n.toNat (mL l))), true) else ([], false)
theorem powerAllR_len (n : Int) (es : List S81) (l : List Int) : (powerAllR n es l).1.length ≤ 1048576 := by
  unfold powerAllR
  split
  · rename_i h
    obtain ⟨N, m, rfl, hN, _⟩ := setB_use h
    have := bl_len_le N (closM es N false (aroM es N (mL l)))
    simp only [Int.toNat_natCast]; omega
  · simp
theorem specPowerAll_ev (n : Int) (es : List S81) (l : List Int) (hl : l.length ≤ 9223372036854775807) (he : es.length ≤ 9223372036854775807) : Ev (fun k => spec_PowerAll.f k n es l) (powerAllR n es l) := by
  unfold spec_PowerAll.f powerAllR
  rw [Ev.bind_iff (l9Both_ev n es l hl), Ev.ite_iff]
  split
  · rename_i h
    obtain ⟨N, m, rfl, hN, hg, hok, hm, rfl, hml⟩ := setB_use h
    rw [Ev.bind_iff (l9Power_ev es N m hN hm he), Ev.now_iff, hml, Int.toNat_natCast]
  · rw [Ev.now_iff]
theorem implPowerAll_ev (n : Int) (es : List S81) (l : List Int) (hl : l.length ≤ 9223372036854775807) : Ev (fun k => impl_PowerAll.f k n es l) (powerAllR n es l) := by
  unfold impl_PowerAll.f powerAllR
  rw [Ev.bind_iff (isSet_ev n es l hl), Ev.ite_iff]
  split
  · rename_i h
    obtain ⟨N, m, rfl, hN, hg, hok, hm, hlm, hml⟩ := setB_use h
    have hr : ∀ x ∈ l, 0 ≤ x ∧ x < 8 := by rw [hlm]; exact bl_range hN
    rw [netOf_eq hg]
    simp only [Option.bind_some]
    rw [Ev.bind_iff (maskOf_ev l hl hr), hml, Ev.bind_iff (around_ev es N m hN hm), Ev.bind_iff (forceAll_ev es N false hN _ (aroM_lt hm)), Ev.bind_iff (setOf_ev N _ hN (closM_lt (aroM_lt hm))), Ev.now_iff, Int.toNat_natCast]
  · rw [Ev.now_iff]
theorem FnExactPowerAll_pure (n : Int) (es : List S81) (l : List Int) (he : es.length ≤ 9223372036854775807) (hl : l.length ≤ 9223372036854775807) : Ev (fun k => laws_FnExactPowerAll.f k n es l) true := by
  unfold laws_FnExactPowerAll.f
  rw [Ev.ite_iff]
  by_cases h1 : (l.length : Int) > 1048576
  · rw [if_pos h1, Ev.now_iff]
  rw [if_neg h1]
  rw [szGraph_eq n es (by omega)]
  simp only [Option.bind_some, Ev.ite_iff]
  by_cases hs : es.length ≤ 1048576
  case neg => rw [if_neg hs, if_pos (by omega), Ev.now_iff]
  rw [if_pos hs, if_neg (by omega)]
  have hg := toGraph_ev n es (by omega)
  have hi := toIntS_ev l (by omega)
  have hr := powerAllR_len n es l
  have hS := specPowerAll_ev n es l (by omega) (by omega)
  have hI := implPowerAll_ev n es l (by omega)
  generalize powerAllR n es l = R at hr hS hI
  rw [Ev.bind_iff hg, Ev.bind_iff hi, Ev.bind_iff hS, Ev.bind_iff hg, Ev.bind_iff hi, Ev.bind_iff hI]
  rw [Ev.bind_iff (eqIntS_refl R.1 (by omega))]
  simp only [bne_self_eq_false, Bool.false_eq_true, ↓reduceIte]
  rw [Ev.iff_succ]
  simp only [laws_FnExactPowerAll.j0, Bool.false_eq_true, ↓reduceIte]
  rw [Ev.bind_iff hg, Ev.bind_iff (eqGraph_refl n es he)]
  simp only [↓reduceIte]
  rw [Ev.bind_iff hi, Ev.bind_iff (eqIntS_refl l hl)]
  simp only [↓reduceIte]
  obtain ⟨rm, hm⟩ := markGraph_eq n es 1 (by omega) (by omega)
  rw [hm]
  simp only [Option.bind_some]
  rw [Ev.bind_iff (markIntS_ev l (1 + 2 * (es.length : Int)) (by omega) (by omega))]
  simp only []
  rw [Ev.ite_iff, if_neg (by omega), Ev.bind_iff (eqIntS_refl R.1 (by omega))]
  simp only [bne_self_eq_false, ↓reduceIte]
  rw [Ev.iff_succ]
  simp only [laws_FnExactPowerAll.j1, Bool.false_eq_true, ↓reduceIte]
  rw [Ev.bind_iff (markIntS_ev R.1 1 (by omega) (by omega))]
  simp only []
  rw [Ev.bind_iff (heldIntS_ev 1 R.1.length (by omega) (by omega)), Ev.ite_iff, if_neg (by omega)]
  simp only [↓reduceIte]
  rw [Ev.bind_iff hg, Ev.bind_iff hi, Ev.bind_iff hI, Ev.bind_iff (eqIntS_refl R.1 (by omega))]
  simp only [bne_self_eq_false, ↓reduceIte]
  rw [Ev.iff_succ]
  simp only [laws_FnExactPowerAll.j2, Bool.false_eq_true, ↓reduceIte]
  rw [Ev.bind_iff (heldIntS_ev 1 R.1.length (by omega) (by omega)), Ev.ite_iff, if_neg (by omega)]
  simp only [↓reduceIte, Ev.now_iff]


end Go.Proofs.Ytfeaddkaommpgac.QPowerAll
