import Derived.Test.YtfeaddkaommpgacQFortOutside0
import Derived.Test.YtfeaddkaommpgacQFortOutside1
import Derived.Test.YtfeaddkaommpgacQFortOutside10
import Derived.Test.YtfeaddkaommpgacQFortOutside12
import Derived.Test.YtfeaddkaommpgacQFortOutside13
import Derived.Test.YtfeaddkaommpgacQFortOutside2
import Derived.Test.YtfeaddkaommpgacQFortOutside7
import Derived.Test.YtfeaddkaommpgacQFortOutside8
import Derived.Test.YtfeaddkaommpgacQFortOutside9
import Derived.Test.YtfeaddkaommpgacQFortOutsideA1
namespace Go.Proofs.Ytfeaddkaommpgac.QFortOutside
open Go.RowKit Go.Proofs.YtfeaddkaommpgacW.PrintWords Go.Proofs.YtfeaddkaommpgacW.PrintLast Go.Proofs.YtfeaddkaommpgacW.PrintMore
attribute [local go_sem] max2_int min2_int max_two min_two max_three min_three max_four min_four   -- for this text's walks alone
set_option linter.unusedVariables false
set_option linter.unusedSimpArgs false
theorem l5Rest_ev (es : List S81) (n m : Nat) (hn : n ≤ 8) : Ev (fun k => spec_l5Rest.f k n es (bl n m)) (bl n (mns (2 ^ n - 1) m)) := by
  have hb := bl_len_le n m
  have H := down n (fun i => Ev (fun k => spec_l5Rest.l0 k (bl n m) (bl i (mns (2 ^ n - 1) m)) i n es) (bl n (mns (2 ^ n - 1) m))) ?_ ?_ 0 (by omega)
  · simpa [spec_l5Rest.f, bl] using H
  · show Ev _ _
    rw [Ev.iff_succ]
    simp [spec_l5Rest.l0, Ev.now_iff]
  · intro i hi ih
    show Ev _ _
    rw [Ev.iff_succ]
    have h1 : (i : Int) < (n : Int) := by omega
    have h3 := bl_len_le i (mns (2 ^ n - 1) m)
    have h4 : (bl i (mns (2 ^ n - 1) m)).length < 17592186044416 := by omega
    have h5 : (mns (2 ^ n - 1) m).testBit i = !m.testBit i := by rw [mns_bit, Nat.testBit_two_pow_sub_one]; simp [hi]
    rw [bl_step hi, h5] at ih
    simp only [spec_l5Rest.l0, Ev.ite_iff, h1, h4, ↓reduceIte, w64_succ i (by omega), Ev.bind_iff (l1Has_ev (bl n m) i (by omega)), mem_bl_nat, hi, true_and]
    cases c : m.testBit i
    · rw [c] at ih; simpa using ih
    · rw [c] at ih; simpa using ih

theorem rest_zero {n m : Nat} (hm : m < 2 ^ n) : mns (2 ^ n - 1) m = 0 ↔ m = 2 ^ n - 1 := by
  have h1 : 2 ^ n - 1 < 2 ^ n := by have := Nat.two_pow_pos n; omega
  constructor
  · intro h
    refine mask_ext (n := n) hm h1 (fun i hi => ?_)
    have := congrArg (fun z => z.testBit i) h
    simp only [mns_bit, Nat.testBit_two_pow_sub_one, hi, decide_true, Bool.true_and, Nat.zero_testBit] at this ⊢
    simpa using this
  · rintro h
    refine mask_ext (n := n) (mns_lt _ h1) (Nat.two_pow_pos n) (fun i hi => ?_)
    rw [mns_bit, h]; simp

theorem set_fill {α : Type} (l : List α) (z : α) (i : Nat) (h : i < l.length) : (l.take i ++ List.replicate (l.length - i) z).set i l[i] = l.take (i + 1) ++ List.replicate (l.length - (i + 1)) z := by
  rw [List.take_succ_eq_append_getElem h, show l.length - i = (l.length - (i + 1)) + 1 by omega, List.replicate_succ]
  have h1 : (l.take i).length = i := by rw [List.length_take]; omega
  rw [List.set_append_right _ _ (by omega), h1, Nat.sub_self, List.set_cons_zero, List.append_assoc]
  rfl

theorem toIntS_ev (l : List Int) (hl : l.length ≤ 35184372088832) : Ev (fun k => laws_toIntS.f k l) l := by
  unfold laws_toIntS.f
  rw [Ev.ite_iff, if_pos (by omega), Ev.ite_iff, if_pos (by omega), Int.toNat_natCast]
  have H := down l.length (fun i => Ev (fun k => laws_toIntS.l0 k l (l.take i ++ List.replicate (l.length - i) 0) i) l) ?_ ?_ 0 (by omega)
  · simpa using H
  · show Ev _ _
    rw [Ev.iff_succ]
    simp [laws_toIntS.l0, Ev.now_iff]
  · intro i hi ih
    show Ev _ _
    rw [Ev.iff_succ]
    have h1 : (i : Int) < l.length := by omega
    have h2 : (0 : Int) ≤ i := by omega
    have h3 : (i : Int) < ((l.take i ++ List.replicate (l.length - i) (0 : Int)).length : Int) := by
      rw [List.length_append, List.length_take, List.length_replicate]; omega
    simp only [laws_toIntS.l0, Ev.ite_iff, h1, h2, h3, ↓reduceIte, w64_succ i (by omega), rd_lt l i hi, Int.toNat_natCast]
    rw [set_fill l 0 i hi]
    exact ih

theorem toIntA2_eq (a b : Int) : laws_toIntA2.f a b = some (a, b) := rfl

theorem toIntA2S_ev (l : List S81) (hl : l.length ≤ 17592186044416) : Ev (fun k => laws_toIntA2S.f k l) l := by
  unfold laws_toIntA2S.f
  rw [Ev.ite_iff, if_pos (by omega), Ev.ite_iff, if_pos (by omega), Int.toNat_natCast]
  have H := down l.length (fun i => Ev (fun k => laws_toIntA2S.l0 k l (l.take i ++ List.replicate (l.length - i) z81) i) l) ?_ ?_ 0 (by omega)
  · simpa using H
  · show Ev _ _
    rw [Ev.iff_succ]
    simp [laws_toIntA2S.l0, Ev.now_iff]
  · intro i hi ih
    show Ev _ _
    rw [Ev.iff_succ]
    have h1 : (i : Int) < l.length := by omega
    have h2 : (0 : Int) ≤ i := by omega
    have h3 : (i : Int) < ((l.take i ++ List.replicate (l.length - i) z81).length : Int) := by
      rw [List.length_append, List.length_take, List.length_replicate]; omega
    have h4 : rd_T81 l i = l[i] := by simp [rd_T81, hi]
    simp only [laws_toIntA2S.l0, Ev.ite_iff, h1, h2, ↓reduceIte, toIntA2_eq, Option.bind_some, h3, w64_succ i (by omega), h4, Int.toNat_natCast]
    rw [set_fill l _ i hi]
    exact ih

theorem toGraph_ev (n : Int) (es : List S81) (hl : es.length ≤ 17592186044416) : Ev (fun k => laws_toGraph.f k n es) (n, es) := by
  unfold laws_toGraph.f
  rw [Ev.bind_iff (toIntA2S_ev es hl), Ev.now_iff]

theorem eqIntS_refl (l : List Int) (hl : l.length ≤ 9223372036854775807) : Ev (fun k => laws_eqIntS.f k l l) true := by
  unfold laws_eqIntS.f
  rw [Ev.ite_iff, if_pos rfl]
  have H := down l.length (fun i => Ev (fun k => laws_eqIntS.l0 k l l i) true) ?_ ?_ 0 (by omega)
  · simpa using H
  · show Ev _ _
    rw [Ev.iff_succ]
    simp [laws_eqIntS.l0, Ev.now_iff]
  · intro i hi ih
    show Ev _ _
    rw [Ev.iff_succ]
    have h1 : (i : Int) < l.length := by omega
    have h2 : (0 : Int) ≤ i := by omega
    simp only [laws_eqIntS.l0, Ev.ite_iff, h1, h2, ↓reduceIte, w64_succ i (by omega)]
    exact ih

theorem eqIntA2_refl (a b : Int) : laws_eqIntA2.f a b a b = some true := by simp [laws_eqIntA2.f]

theorem eqGraph_refl (n : Int) (es : List S81) (hl : es.length ≤ 9223372036854775807) : Ev (fun k => laws_eqGraph.f k n es n es) true := by
  have H0 : Ev (fun k => laws_eqIntA2S.f k es es) true := by
    unfold laws_eqIntA2S.f
    rw [Ev.ite_iff, if_pos rfl]
    have H := down es.length (fun i => Ev (fun k => laws_eqIntA2S.l0 k es es i) true) ?_ ?_ 0 (by omega)
    · simpa using H
    · show Ev _ _
      rw [Ev.iff_succ]
      simp [laws_eqIntA2S.l0, Ev.now_iff]
    · intro i hi ih
      show Ev _ _
      rw [Ev.iff_succ]
      have h1 : (i : Int) < es.length := by omega
      have h2 : (0 : Int) ≤ i := by omega
      simp only [laws_eqIntA2S.l0, Ev.ite_iff, h1, h2, ↓reduceIte, w64_succ i (by omega), eqIntA2_refl, Option.bind_some]
      exact ih
  unfold laws_eqGraph.f
  rw [Ev.ite_iff, if_pos rfl, Ev.bind_iff H0, Ev.ite_iff, if_pos rfl, Ev.now_iff]

theorem szGraph_eq (n : Int) (es : List S81) (hl : es.length ≤ 9223372036854775807) : laws_szGraph.f n es 1048576 = some (if es.length ≤ 1048576 then 1048576 - (es.length : Int) else -1) := by
  unfold laws_szGraph.f laws_szIntA2S.f
  rw [w64 (by omega) (by omega)]
  by_cases h : es.length ≤ 1048576
  · rw [if_neg (by omega), if_pos h, Option.bind_some, if_neg (by omega)]
  · rw [if_pos (by omega), if_neg h, Option.bind_some, if_pos (by omega)]

/-- A graph is valid and a list is a set of its nodes. -/
def setB (n : Int) (es : List S81) (l : List Int) : Bool := okG n es && (allIn 0 (wrap64 (n - 1)) l && ascB none l)

theorem setB_use {n : Int} {es : List S81} {l : List Int} (h : setB n es l = true) : ∃ N m : Nat, n = N ∧ N ≤ 8 ∧ okG N es = true ∧ (∀ e ∈ es, edgeOk N e = true) ∧ m < 2 ^ N ∧ l = bl N m ∧ mL l = m := by
  simp only [setB, Bool.and_eq_true] at h
  obtain ⟨h1, h2, h3⟩ := h
  have h4 := h1
  simp only [okG, Bool.and_eq_true, decide_eq_true_eq] at h4
  obtain ⟨N, rfl⟩ : ∃ N : Nat, n = N := ⟨n.toNat, by omega⟩
  rw [w64 (by omega) (by omega)] at h2
  have h5 : ∀ x ∈ l, 0 ≤ x ∧ x < (N : Int) := fun x hx => by
    simp only [allIn, List.all_eq_true, decide_eq_true_eq] at h2
    have := h2 x hx
    omega
  exact ⟨N, mL l, rfl, by omega, h1, goodL_all h4.2, mL_lt h5, bl_of_asc h2 h3, rfl⟩

theorem l2Good_eq (n : Int) (es : List S81) : spec_l2Good.f n es = some (okG n es) := rfl

theorem IsGraph_eq (n : Int) (es : List S81) : impl_IsGraph.f n es = some (okG n es) := rfl

theorem l2Set_ev (n : Int) (es : List S81) (l : List Int) (hl : l.length ≤ 9223372036854775807) : Ev (fun k => spec_l2Set.f k n es l) (allIn 0 (wrap64 (n - 1)) l && ascB none l) := by
  unfold spec_l2Set.f
  rw [Ev.bind_iff (l1Rising_ev l 0 _ hl), Ev.now_iff]

theorem l9Both_ev (n : Int) (es : List S81) (l : List Int) (hl : l.length ≤ 9223372036854775807) : Ev (fun k => spec_l9Both.f k n es l) (setB n es l) := by
  unfold spec_l9Both.f
  rw [l2Good_eq]
  simp only [Option.bind_some, Ev.ite_iff]
  split
  · rename_i h
    rw [Ev.bind_iff (l2Set_ev n es l hl), Ev.now_iff, setB, h, Bool.true_and]
  · rename_i h
    rw [Ev.now_iff, setB, Bool.eq_false_iff.2 h, Bool.false_and]

theorem hasNodes_ev (n : Int) (es : List S81) (l : List Int) (hl : l.length ≤ 9223372036854775807) : Ev (fun k => impl_hasNodes.f k n es l) (okG n es && allIn 0 (wrap64 (n - 1)) l) := by
  unfold impl_hasNodes.f
  rw [IsGraph_eq]
  simp only [Option.bind_some, Ev.ite_iff]
  split
  · rename_i h
    rw [Ev.bind_iff (allWithin_ev l 0 _ hl), Ev.now_iff, h, Bool.true_and]
  · rename_i h
    rw [Ev.now_iff, Bool.eq_false_iff.2 h, Bool.false_and]

theorem isSet_ev (n : Int) (es : List S81) (l : List Int) (hl : l.length ≤ 9223372036854775807) : Ev (fun k => impl_isSet.f k n es l) (setB n es l) := by
  unfold impl_isSet.f
  rw [Ev.bind_iff (hasNodes_ev n es l hl), Ev.ite_iff]
  unfold setB
  split
  · rename_i h
    rw [Ev.bind_iff (increasing_ev l hl), Ev.now_iff, ← Bool.and_assoc, h, Bool.true_and]
  · rename_i h
    rw [Ev.now_iff, ← Bool.and_assoc, Bool.eq_false_iff.2 h, Bool.false_and]

theorem maskOf_ev (l : List Int) (hl : l.length ≤ 9223372036854775807) (h : ∀ x ∈ l, 0 ≤ x ∧ x < 8) : Ev (fun k => impl_maskOf.f k l) ((mL l : Nat) : Int) := by
  have hm : ∀ s : List Int, (∀ x ∈ s, 0 ≤ x ∧ x < 8) → mL s < 2 ^ 8 := fun s hs => mL_lt (n := 8) hs
  have H := down l.length (fun i => ∀ acc : Nat, acc < 2 ^ 8 → Ev (fun k => impl_maskOf.l0 k acc l l.length i) ((acc ||| mL (l.drop i) : Nat) : Int)) ?_ ?_ 0 (by omega) 0 (by decide)
  · simpa [impl_maskOf.f] using H
  · intro acc _
    rw [Ev.iff_succ]
    simp [impl_maskOf.l0, Ev.now_iff, mL]
  · intro i hi ih acc ha
    rw [Ev.iff_succ]
    have h1 : (i : Int) < l.length := by omega
    have h2 : (0 : Int) ≤ i := by omega
    have hx := h l[i] (List.getElem_mem hi)
    obtain ⟨a, s, e1, e2, e3, e4⟩ := dropc l i hi
    rw [e4] at hx
    obtain ⟨x, rfl⟩ : ∃ x : Nat, a = x := ⟨a.toNat, by omega⟩
    have hp : 2 ^ x < 2 ^ 8 := Nat.pow_lt_pow_right (by decide) (by omega)
    have h62 : ∀ {c : Nat}, c < 2 ^ 8 → c < 2 ^ 62 := fun h => by omega
    simp only [impl_maskOf.l0, Ev.ite_iff, h1, h2, hx.1, ↓reduceIte, w64_succ i (by omega), e3]
    rw [shl_one (by omega), gor _ _ (h62 ha) (h62 hp)]
    have := ih (acc ||| 2 ^ x) (Nat.or_lt_two_pow ha hp)
    rw [e2] at this
    rw [e1, mL, Int.toNat_natCast, ← Nat.or_assoc]
    exact this

theorem all_eq {es : List S81} {n : Nat} (h : n ≤ 8) : impl_net_all.f (nets es n) = some ((2 ^ n - 1 : Nat) : Int) := by
  unfold impl_net_all.f
  rw [nets_len, mask_all n h]

theorem bl_range {n m : Nat} (hn : n ≤ 8) : ∀ x ∈ bl n m, 0 ≤ x ∧ x < 8 := fun x hx => by
  obtain ⟨i, h1, _, rfl⟩ := mem_bl.1 hx; omega

/-- Numbers one behind the other. -/
def upF (a : Int) (c : Nat) : List Int := (List.range c).map (fun i : Nat => a + (i : Int))

theorem upF_len (a : Int) (c : Nat) : (upF a c).length = c := by simp [upF]

theorem upF_succ (a : Int) (c : Nat) : upF a (c + 1) = upF a c ++ [a + (c : Int)] := by simp [upF, List.range_succ]

theorem upF_rd {a : Int} {c i : Nat} (h : i < c) : rd (upF a c) i = a + (i : Int) := by rw [rd_lt _ i (by rw [upF_len]; exact h)]; simp [upF]

theorem markIntS_ev (l : List Int) (a : Int) (ha : 0 ≤ a) (h : a + l.length < 9223372036854775807) : Ev (fun k => laws_markIntS.f k l a) (a + (l.length : Int), upF a l.length) := by
  have H := down l.length (fun i => Ev (fun k => laws_markIntS.l0 k (upF a i ++ l.drop i) (a + (i : Int)) i) (a + (l.length : Int), upF a l.length)) ?_ ?_ 0 (by omega)
  · simpa [laws_markIntS.f, upF] using H
  · show Ev _ _
    rw [Ev.iff_succ]
    simp [laws_markIntS.l0, Ev.now_iff, upF_len]
  · intro i hi ih
    show Ev _ _
    rw [Ev.iff_succ]
    have h0 : ((upF a i ++ l.drop i).length : Int) = l.length := by rw [List.length_append, upF_len, List.length_drop]; omega
    have h1 : (i : Int) < l.length := by omega
    have h2 : (0 : Int) ≤ i := by omega
    have h3 : (upF a i ++ l.drop i).set i (a + (i : Int)) = upF a (i + 1) ++ l.drop (i + 1) := by
      rw [List.drop_eq_getElem_cons hi, List.set_append_right _ _ (by rw [upF_len]; omega), upF_len, Nat.sub_self, List.set_cons_zero, upF_succ, List.append_assoc]; rfl
    have h4 : wrap64 (a + (i : Int) + 1) = a + ((i + 1 : Nat) : Int) := by rw [w64] <;> omega
    simp only [laws_markIntS.l0, Ev.ite_iff, h0, h1, h2, ↓reduceIte, w64_succ i (by omega), Int.toNat_natCast, h3, h4]
    exact ih

theorem heldIntS_ev (a : Int) (c : Nat) (ha : 0 ≤ a) (h : a + c < 9223372036854775807) : Ev (fun k => laws_heldIntS.f k (upF a c) a) (a + (c : Int)) := by
  have H := down c (fun i => Ev (fun k => laws_heldIntS.l0 k (upF a c) (a + (i : Int)) i) (a + (c : Int))) ?_ ?_ 0 (by omega)
  · simpa [laws_heldIntS.f] using H
  · show Ev _ _
    rw [Ev.iff_succ]
    simp [laws_heldIntS.l0, Ev.now_iff, upF_len]
  · intro i hi ih
    show Ev _ _
    rw [Ev.iff_succ]
    have h1 : (i : Int) < (c : Int) := by omega
    have h2 : (0 : Int) ≤ i := by omega
    have h4 : wrap64 (a + (i : Int) + 1) = a + ((i + 1 : Nat) : Int) := by rw [w64] <;> omega
    simp only [laws_heldIntS.l0, Ev.ite_iff, upF_len, h1, h2, ↓reduceIte, w64_succ i (by omega), upF_rd hi, h4]
    exact ih

theorem markIntA2S_l0 (M : Int) (hM : M = 9223372036854775807) (d : Nat) : ∀ (l : List S81) (a : Int) (i : Nat), l.length = i + d → (l.length : Int) < M → 0 ≤ a → a + 2 * (d : Int) < M → ∃ r, laws_markIntA2S.l0 (d + 1) l a i = some (a + 2 * (d : Int), r) := by
  induction d with
  | zero =>
    intro l a i h _ _ _
    refine ⟨l, ?_⟩
    rw [laws_markIntA2S.l0, if_neg (by omega)]
    simp
  | succ d ih =>
    intro l a i h hl h0 h1
    have e1 : wrap64 (a + 1) = a + 1 := by rw [w64] <;> omega
    have e2 : wrap64 (a + 1 + 1) = a + 1 + 1 := by rw [w64] <;> omega
    have e3 : (i : Int) < (l.length : Int) := by omega
    have e4 : (0 : Int) ≤ i := by omega
    rw [laws_markIntA2S.l0, if_pos e3, if_pos e4, e1, e2, w64_succ i (by omega)]
    obtain ⟨r, hr⟩ := ih (l.set (i : Int).toNat ⟨a, a + 1⟩) (a + 1 + 1) (i + 1) (by rw [List.length_set]; omega) (by rw [List.length_set]; exact hl) (by omega) (by omega)
    exact ⟨r, by rw [hr]; congr 2; omega⟩

theorem markGraph_eq (n : Int) (l : List S81) (a : Int) (ha : 0 ≤ a) (h : a + 2 * (l.length : Int) < 9223372036854775807) : ∃ r, laws_markGraph.f n l a = some (a + 2 * (l.length : Int), r) := by
  obtain ⟨r, hr⟩ := markIntA2S_l0 _ rfl l.length l a 0 (by omega) (by omega) ha h
  exact ⟨r, by simp only [laws_markGraph.f, laws_markIntA2S.f]; rw [show ((0 : Nat) : Int) = 0 from rfl] at hr; rw [hr]; rfl⟩

theorem setOf_ev (n m : Nat) (hn : n ≤ 8) (hm : m < 2 ^ n) : Ev (fun k => impl_setOf.f k m) (bl n m) := by
  obtain ⟨t, ht⟩ : ∃ t, t = 9 := ⟨_, rfl⟩
  have hs : ∀ i, n ≤ i → m >>> i = 0 := fun i hi => by
    rw [Nat.shiftRight_eq_div_pow]; exact Nat.div_eq_of_lt (Nat.lt_of_lt_of_le hm (Nat.pow_le_pow_right (by decide) hi))
  have H := down n (fun i => Ev (fun k => impl_setOf.l0 k m (bl i m) i) (bl n m)) ?_ ?_ 0 (by omega)
  · simpa [impl_setOf.f, bl] using H
  · show Ev _ _
    rw [Ev.iff_succ]
    have h2 : (0 : Int) ≤ n := by omega
    simp [impl_setOf.l0, Ev.now_iff, h2, shr_nat m n (by omega), hs n (Nat.le_refl _)]
  · intro i hi ih
    show Ev _ _
    rw [Ev.iff_succ]
    have h2 : (0 : Int) ≤ i := by omega
    have h3 := bl_len_le i m
    have h4 : (bl i m).length < 17592186044416 := by omega
    have e3 := shr_bit m i (lt62 hn hm) (by omega)
    rw [bl_step hi] at ih
    simp only [impl_setOf.l0, Ev.ite_iff, h2, h4, ↓reduceIte, w64_succ i (by omega), e3]
    by_cases c : shr .i64 (m : Int) (i : Int) = 0
    · rw [if_pos c, Ev.now_iff]
      rw [shr_nat m i (by omega)] at c
      have c' : m >>> i = 0 := by omega
      have hb : ∀ j, i ≤ j → m.testBit j = false := fun j hj => by
        have : (m >>> i).testBit (j - i) = false := by rw [c']; simp
        rw [Nat.testBit_shiftRight] at this
        rwa [show i + (j - i) = j by omega] at this
      refine asc_ext (bl_asc _ _) (bl_asc _ _) (fun x => ?_)
      rw [mem_bl, mem_bl]
      constructor
      · rintro ⟨j, h1, h2, rfl⟩; exact ⟨j, by omega, h2, rfl⟩
      · rintro ⟨j, h1, h2, rfl⟩
        refine ⟨j, ?_, h2, rfl⟩
        by_cases hj : i ≤ j
        · rw [hb j hj] at h2; cases h2
        · omega
    · rw [if_neg c]
      cases c2 : m.testBit i
      · rw [c2] at ih; simpa using ih
      · rw [c2] at ih; simpa using ih

def fortOutsideR (n : Int) (es : List S81) (l : List Int) : List Int × Bool := if setB n es l = true ∧ closM es n.toNat false (mL l) ≠ 2 ^ n.toNat - 1 then (bl n.toNat (mns (2 ^ n.toNat - 1) (closM es n.toNat false (mL l))), true) else ([], false)

theorem fortOutsideR_len (n : Int) (es : List S81) (l : List Int) : (fortOutsideR n es l).1.length ≤ 1048576 := by
  unfold fortOutsideR
  split
  · rename_i h
    obtain ⟨N, m, rfl, hN, _⟩ := setB_use h.1
    have := bl_len_le N (mns (2 ^ N - 1) (closM es N false (mL l)))
    simp only [Int.toNat_natCast]; omega
  · simp

theorem specFortOutside_ev (n : Int) (es : List S81) (l : List Int) (hl : l.length ≤ 9223372036854775807) (he : es.length ≤ 9223372036854775807) : Ev (fun k => spec_FortOutside.f k n es l) (fortOutsideR n es l) := by
  unfold spec_FortOutside.f fortOutsideR
  rw [Ev.bind_iff (l9Both_ev n es l hl), Ev.ite_iff]
  by_cases h : setB n es l = true
  · obtain ⟨N, m, rfl, hN, hg, hok, hm, rfl, hml⟩ := setB_use h
    rw [if_pos h, Ev.bind_iff (l9Forces_ev es N m hN hm he), Ev.iff_succ]
    simp only [spec_FortOutside.j0, Ev.ite_iff, decide_eq_true_eq, h, hml, Int.toNat_natCast, true_and]
    by_cases c : closM es N false m = 2 ^ N - 1
    · simp only [c, ↓reduceIte, Ev.now_iff, ne_eq, not_true]
    · simp only [c, ↓reduceIte, ne_eq, not_false_eq_true]
      rw [Ev.bind_iff (l9All_ev es N false hN he m hm), Ev.bind_iff (l5Rest_ev es N _ hN), Ev.now_iff]
  · rw [if_neg h, Ev.iff_succ]
    simp only [spec_FortOutside.j0, ↓reduceIte, Ev.now_iff, h, Bool.false_eq_true, false_and]

theorem implFortOutside_ev (n : Int) (es : List S81) (l : List Int) (hl : l.length ≤ 9223372036854775807) : Ev (fun k => impl_FortOutside.f k n es l) (fortOutsideR n es l) := by
  unfold impl_FortOutside.f fortOutsideR
  rw [Ev.bind_iff (isSet_ev n es l hl), Ev.ite_iff]
  by_cases h : setB n es l = true
  · obtain ⟨N, m, rfl, hN, hg, hok, hm, hlm, hml⟩ := setB_use h
    have hr : ∀ x ∈ l, 0 ≤ x ∧ x < 8 := by rw [hlm]; exact bl_range hN
    have h1 : 2 ^ N - 1 < 2 ^ N := by have := Nat.two_pow_pos N; omega
    have hc := closM_lt (es := es) (skew := false) hm
    rw [if_pos h, netOf_eq hg]
    simp only [Option.bind_some]
    rw [all_eq hN]
    simp only [Option.bind_some]
    rw [Ev.bind_iff (maskOf_ev l hl hr), hml, Ev.bind_iff (forceAll_ev es N false hN m hm), gandn _ _ (lt62 hN h1) (lt62 hN hc), Ev.ite_iff]
    simp only [h, true_and, Int.toNat_natCast, show ∀ z : Nat, (z : Int) = 0 ↔ z = 0 from fun z => by omega, rest_zero hc]
    by_cases c : closM es N false m = 2 ^ N - 1
    · simp only [c, ↓reduceIte, Ev.now_iff, ne_eq, not_true]
    · simp only [c, ↓reduceIte, ne_eq, not_false_eq_true]
      rw [Ev.bind_iff (setOf_ev N _ hN (mns_lt _ h1)), Ev.now_iff]
  · rw [if_neg h, Ev.now_iff, if_neg (fun c => h c.1)]

theorem FnExactFortOutside_pure (n : Int) (es : List S81) (l : List Int) (he : es.length ≤ 9223372036854775807) (hl : l.length ≤ 9223372036854775807) : Ev (fun k => laws_FnExactFortOutside.f k n es l) true := by
  unfold laws_FnExactFortOutside.f
  rw [Ev.ite_iff]
  by_cases h1 : (l.length : Int) > 1048576
  · rw [if_pos h1, Ev.now_iff]
  rw [if_neg h1]
  rw [szGraph_eq n es (by omega)]
  simp only [Option.bind_some, Ev.ite_iff]
  by_cases hs : es.length ≤ 1048576
  case neg => rw [if_neg hs, if_pos (by omega), Ev.now_iff]
  rw [if_pos hs, if_neg (by omega)]
  have hg := toGraph_ev n es (by omega)
  have hi := toIntS_ev l (by omega)
  have hr := fortOutsideR_len n es l
  have hS := specFortOutside_ev n es l (by omega) (by omega)
  have hI := implFortOutside_ev n es l (by omega)
  generalize fortOutsideR n es l = R at hr hS hI
  rw [Ev.bind_iff hg, Ev.bind_iff hi, Ev.bind_iff hS, Ev.bind_iff hg, Ev.bind_iff hi, Ev.bind_iff hI]
  rw [Ev.bind_iff (eqIntS_refl R.1 (by omega))]
  simp only [bne_self_eq_false, Bool.false_eq_true, ↓reduceIte]
  rw [Ev.iff_succ]
  simp only [laws_FnExactFortOutside.j0, Bool.false_eq_true, ↓reduceIte]
  rw [Ev.bind_iff hg, Ev.bind_iff (eqGraph_refl n es he)]
  simp only [↓reduceIte]
  rw [Ev.bind_iff hi, Ev.bind_iff (eqIntS_refl l hl)]
  simp only [↓reduceIte]
  obtain ⟨rm, hm⟩ := markGraph_eq n es 1 (by omega) (by omega)
  rw [hm]
  simp only [Option.bind_some]
  rw [Ev.bind_iff (markIntS_ev l (1 + 2 * (es.length : Int)) (by omega) (by omega))]
  simp only []
  rw [Ev.ite_iff, if_neg (by omega), Ev.bind_iff (eqIntS_refl R.1 (by omega))]
  simp only [bne_self_eq_false, ↓reduceIte]
  rw [Ev.iff_succ]
  simp only [laws_FnExactFortOutside.j1, Bool.false_eq_true, ↓reduceIte]
  rw [Ev.bind_iff (markIntS_ev R.1 1 (by omega) (by omega))]
  simp only []
  rw [Ev.bind_iff (heldIntS_ev 1 R.1.length (by omega) (by omega)), Ev.ite_iff, if_neg (by omega)]
  simp only [↓reduceIte]
  rw [Ev.bind_iff hg, Ev.bind_iff hi, Ev.bind_iff hI, Ev.bind_iff (eqIntS_refl R.1 (by omega))]
  simp only [bne_self_eq_false, ↓reduceIte]
  rw [Ev.iff_succ]
  simp only [laws_FnExactFortOutside.j2, Bool.false_eq_true, ↓reduceIte]
  rw [Ev.bind_iff (heldIntS_ev 1 R.1.length (by omega) (by omega)), Ev.ite_iff, if_neg (by omega)]
  simp only [↓reduceIte, Ev.now_iff]

end Go.Proofs.Ytfeaddkaommpgac.QFortOutside
