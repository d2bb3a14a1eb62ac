import Derived.Test.YthbjajppdomhhaaDoorQReversedSet0
import Derived.Test.YthbjajppdomhhaaDoorQReversedSet1
import Derived.Test.YthbjajppdomhhaaDoorQReversedSet10
import Derived.Test.YthbjajppdomhhaaDoorQReversedSet11
import Derived.Test.YthbjajppdomhhaaDoorQReversedSet12
import Derived.Test.YthbjajppdomhhaaDoorQReversedSet14
import Derived.Test.YthbjajppdomhhaaDoorQReversedSet2
import Derived.Test.YthbjajppdomhhaaDoorQReversedSet3
import Derived.Test.YthbjajppdomhhaaDoorQReversedSetA1
namespace Go.Proofs.YthbjajppdomhhaaDoor.QReversedSet
open Go.RowKit Go.Proofs.YthbjajppdomhhaaDoorW.PrintWords Go.Proofs.YthbjajppdomhhaaDoorW.PrintLast Go.Proofs.YthbjajppdomhhaaDoorW.PrintMore
attribute [local go_sem] max2_int min2_int max_two min_two max_three min_three max_four min_four   -- for this text's walks alone
set_option linter.unusedVariables false
set_option linter.unusedSimpArgs false
theorem toIntA2S_ev (l : List S92) (hl : l.length ≤ 17592186044416) : Ev (fun k => laws_toIntA2S.f k l) l := by
 unfold laws_toIntA2S.f
 rw [Ev.ite_iff, if_pos (by omega), Ev.ite_iff, if_pos (by omega), Int.toNat_natCast]
 have H := down l.length (fun i => Ev (fun k => laws_toIntA2S.l0 k l (l.take i ++ List.replicate (l.length - i) z92) i) l) ?_ ?_ 0 (by omega)
 ·simpa using H
 ·show Ev _ _
  rw [Ev.iff_succ]
  simp [laws_toIntA2S.l0, Ev.now_iff]
 ·intro i hi ih
  show Ev _ _
  rw [Ev.iff_succ]
  have h1 : (i : Int) < l.length := by omega
  have h2 : (0 : Int) ≤ i := by omega
  have h3 : (i : Int) < ((l.take i ++ List.replicate (l.length - i) z92).length : Int) := by
   rw [List.length_append, List.length_take, List.length_replicate];omega
  have h4 : rd_T92 l i = l[i] := by simp [rd_T92, hi]
  simp only [laws_toIntA2S.l0, Ev.ite_iff, h1, h2, ↓reduceIte, toIntA2_eq, Option.bind_some, h3, w64_succ i (by omega), h4, Int.toNat_natCast]
  rw [set_fill l _ i hi]
  exact ih

theorem toGraph_ev (n : Int) (es : List S92) (hl : es.length ≤ 17592186044416) : Ev (fun k => laws_toGraph.f k n es) (n, es) := by
 unfold laws_toGraph.f
 rw [Ev.bind_iff (toIntA2S_ev es hl), Ev.now_iff]

theorem eqIntS_refl (l : List Int) (hl : l.length ≤ 9223372036854775807) : Ev (fun k => laws_eqIntS.f k l l) true := by
 unfold laws_eqIntS.f
 rw [Ev.ite_iff, if_pos rfl]
 have H := down l.length (fun i => Ev (fun k => laws_eqIntS.l0 k l l i) true) ?_ ?_ 0 (by omega)
 ·simpa using H
 ·show Ev _ _
  rw [Ev.iff_succ]
  simp [laws_eqIntS.l0, Ev.now_iff]
 ·intro i hi ih
  show Ev _ _
  rw [Ev.iff_succ]
  have h1 : (i : Int) < l.length := by omega
  have h2 : (0 : Int) ≤ i := by omega
  simp only [laws_eqIntS.l0, Ev.ite_iff, h1, h2, ↓reduceIte, w64_succ i (by omega)]
  exact ih

theorem eqIntA2_refl (a b : Int) : laws_eqIntA2.f a b a b = some true := by simp [laws_eqIntA2.f]

theorem eqGraph_refl (n : Int) (es : List S92) (hl : es.length ≤ 9223372036854775807) : Ev (fun k => laws_eqGraph.f k n es n es) true := by
 have H0 : Ev (fun k => laws_eqIntA2S.f k es es) true := by
  unfold laws_eqIntA2S.f
  rw [Ev.ite_iff, if_pos rfl]
  have H := down es.length (fun i => Ev (fun k => laws_eqIntA2S.l0 k es es i) true) ?_ ?_ 0 (by omega)
  ·simpa using H
  ·show Ev _ _
   rw [Ev.iff_succ]
   simp [laws_eqIntA2S.l0, Ev.now_iff]
  ·intro i hi ih
   show Ev _ _
   rw [Ev.iff_succ]
   have h1 : (i : Int) < es.length := by omega
   have h2 : (0 : Int) ≤ i := by omega
   simp only [laws_eqIntA2S.l0, Ev.ite_iff, h1, h2, ↓reduceIte, w64_succ i (by omega), eqIntA2_refl, Option.bind_some]
   exact ih
 unfold laws_eqGraph.f
 rw [Ev.ite_iff, if_pos rfl, Ev.bind_iff H0, Ev.ite_iff, if_pos rfl, Ev.now_iff]

theorem szGraph_eq (n : Int) (es : List S92) (hl : es.length ≤ 9223372036854775807) : laws_szGraph.f n es 1048576 = some (if es.length ≤ 1048576 then 1048576 - (es.length : Int) else -1) := by
 unfold laws_szGraph.f laws_szIntA2S.f
 rw [w64 (by omega) (by omega)]
 by_cases h : es.length ≤ 1048576
 ·rw [if_neg (by omega), if_pos h, Option.bind_some, if_neg (by omega)]
 ·rw [if_pos (by omega), if_neg h, Option.bind_some, if_pos (by omega)]

/-- A graph is valid and a list is a set of its nodes. -/
def setB (n : Int) (es : List S92) (l : List Int) : Bool := okG n es && (allIn 0 (wrap64 (n - 1)) l && ascB none l)

theorem setB_use {n : Int} {es : List S92} {l : List Int} (h : setB n es l = true) : ∃ N m : Nat, n = N ∧ N ≤ 8 ∧ okG N es = true ∧ (∀ e ∈ es, edgeOk N e = true) ∧ m < 2 ^ N ∧ l = bl N m ∧ mL l = m := by
 simp only [setB, Bool.and_eq_true] at h
 obtain ⟨h1, h2, h3⟩ := h
 have h4 := h1
 simp only [okG, Bool.and_eq_true, decide_eq_true_eq] at h4
 obtain ⟨N, rfl⟩ : ∃ N : Nat, n = N := ⟨n.toNat, by omega⟩
 rw [w64 (by omega) (by omega)] at h2
 have h5 : ∀ x ∈ l, 0 ≤ x ∧ x < (N : Int) := fun x hx => by
  simp only [allIn, List.all_eq_true, decide_eq_true_eq] at h2
  have := h2 x hx
  omega
 exact ⟨N, mL l, rfl, by omega, h1, goodL_all h4.2, mL_lt h5, bl_of_asc h2 h3, rfl⟩

theorem l2Good_eq (n : Int) (es : List S92) : spec_l2Good.f n es = some (okG n es) := rfl

theorem IsGraph_eq (n : Int) (es : List S92) : impl_IsGraph.f n es = some (okG n es) := rfl

theorem l2Set_ev (n : Int) (es : List S92) (l : List Int) (hl : l.length ≤ 9223372036854775807) : Ev (fun k => spec_l2Set.f k n es l) (allIn 0 (wrap64 (n - 1)) l && ascB none l) := by
 unfold spec_l2Set.f
 rw [Ev.bind_iff (l1Rising_ev l 0 _ hl), Ev.now_iff]

theorem l9Both_ev (n : Int) (es : List S92) (l : List Int) (hl : l.length ≤ 9223372036854775807) : Ev (fun k => spec_l9Both.f k n es l) (setB n es l) := by
 unfold spec_l9Both.f
 rw [l2Good_eq]
 simp only [Option.bind_some, Ev.ite_iff]
 split
 ·rename_i h
  rw [Ev.bind_iff (l2Set_ev n es l hl), Ev.now_iff, setB, h, Bool.true_and]
 ·rename_i h
  rw [Ev.now_iff, setB, Bool.eq_false_iff.2 h, Bool.false_and]

theorem hasNodes_ev (n : Int) (es : List S92) (l : List Int) (hl : l.length ≤ 9223372036854775807) : Ev (fun k => impl_hasNodes.f k n es l) (okG n es && allIn 0 (wrap64 (n - 1)) l) := by
 unfold impl_hasNodes.f
 rw [IsGraph_eq]
 simp only [Option.bind_some, Ev.ite_iff]
 split
 ·rename_i h
  rw [Ev.bind_iff (allWithin_ev l 0 _ hl), Ev.now_iff, h, Bool.true_and]
 ·rename_i h
  rw [Ev.now_iff, Bool.eq_false_iff.2 h, Bool.false_and]

theorem isSet_ev (n : Int) (es : List S92) (l : List Int) (hl : l.length ≤ 9223372036854775807) : Ev (fun k => impl_isSet.f k n es l) (setB n es l) := by
 unfold impl_isSet.f
 rw [Ev.bind_iff (hasNodes_ev n es l hl), Ev.ite_iff]
 unfold setB
 split
 ·rename_i h
  rw [Ev.bind_iff (increasing_ev l hl), Ev.now_iff, ← Bool.and_assoc, h, Bool.true_and]
 ·rename_i h
  rw [Ev.now_iff, ← Bool.and_assoc, Bool.eq_false_iff.2 h, Bool.false_and]

theorem maskOf_ev (l : List Int) (hl : l.length ≤ 9223372036854775807) (h : ∀ x ∈ l, 0 ≤ x ∧ x < 8) : Ev (fun k => impl_maskOf.f k l) ((mL l : Nat) : Int) := by
 have hm : ∀ s : List Int, (∀ x ∈ s, 0 ≤ x ∧ x < 8) → mL s < 2 ^ 8 := fun s hs => mL_lt (n := 8) hs
 have H := down l.length (fun i => ∀ acc : Nat, acc < 2 ^ 8 → Ev (fun k => impl_maskOf.l0 k acc l l.length i) ((acc ||| mL (l.drop i) : Nat) : Int)) ?_ ?_ 0 (by omega) 0 (by decide)
 ·simpa [impl_maskOf.f] using H
 ·intro acc _
  rw [Ev.iff_succ]
  simp [impl_maskOf.l0, Ev.now_iff, mL]
 ·intro i hi ih acc ha
  rw [Ev.iff_succ]
  have h1 : (i : Int) < l.length := by omega
  have h2 : (0 : Int) ≤ i := by omega
  have hx := h l[i] (List.getElem_mem hi)
  obtain ⟨a, s, e1, e2, e3, e4⟩ := dropc l i hi
  rw [e4] at hx
  obtain ⟨x, rfl⟩ : ∃ x : Nat, a = x := ⟨a.toNat, by omega⟩
  have hp : 2 ^ x < 2 ^ 8 := Nat.pow_lt_pow_right (by decide) (by omega)
  have h62 : ∀ {c : Nat}, c < 2 ^ 8 → c < 2 ^ 62 := fun h => by omega
  simp only [impl_maskOf.l0, Ev.ite_iff, h1, h2, hx.1, ↓reduceIte, w64_succ i (by omega), e3]
  rw [shl_one (by omega), gor _ _ (h62 ha) (h62 hp)]
  have := ih (acc ||| 2 ^ x) (Nat.or_lt_two_pow ha hp)
  rw [e2] at this
  rw [e1, mL, Int.toNat_natCast, ← Nat.or_assoc]
  exact this

theorem all_eq {es : List S92} {n : Nat} (h : n ≤ 8) : impl_net_all.f (nets es n) = some ((2 ^ n - 1 : Nat) : Int) := by
 unfold impl_net_all.f
 rw [nets_len, mask_all n h]

theorem bl_range {n m : Nat} (hn : n ≤ 8) : ∀ x ∈ bl n m, 0 ≤ x ∧ x < 8 := fun x hx => by
 obtain ⟨i, h1, _, rfl⟩ := mem_bl.1 hx;omega

/-- Numbers one behind the other. -/
def upF (a : Int) (c : Nat) : List Int := (List.range c).map (fun i : Nat => a + (i : Int))

theorem upF_len (a : Int) (c : Nat) : (upF a c).length = c := by simp [upF]

theorem upF_succ (a : Int) (c : Nat) : upF a (c + 1) = upF a c ++ [a + (c : Int)] := by simp [upF, List.range_succ]

theorem upF_rd {a : Int} {c i : Nat} (h : i < c) : rd (upF a c) i = a + (i : Int) := by rw [rd_lt _ i (by rw [upF_len]; exact h)]; simp [upF]

theorem markIntS_ev (l : List Int) (a : Int) (ha : 0 ≤ a) (h : a + l.length < 9223372036854775807) : Ev (fun k => laws_markIntS.f k l a) (a + (l.length : Int), upF a l.length) := by
 have H := down l.length (fun i => Ev (fun k => laws_markIntS.l0 k (upF a i ++ l.drop i) (a + (i : Int)) i) (a + (l.length : Int), upF a l.length)) ?_ ?_ 0 (by omega)
 ·simpa [laws_markIntS.f, upF] using H
 ·show Ev _ _
  rw [Ev.iff_succ]
  simp [laws_markIntS.l0, Ev.now_iff, upF_len]
 ·intro i hi ih
  show Ev _ _
  rw [Ev.iff_succ]
  have h0 : ((upF a i ++ l.drop i).length : Int) = l.length := by rw [List.length_append, upF_len, List.length_drop];omega
  have h1 : (i : Int) < l.length := by omega
  have h2 : (0 : Int) ≤ i := by omega
  have h3 : (upF a i ++ l.drop i).set i (a + (i : Int)) = upF a (i + 1) ++ l.drop (i + 1) := by
   rw [List.drop_eq_getElem_cons hi, List.set_append_right _ _ (by rw [upF_len];omega), upF_len, Nat.sub_self, List.set_cons_zero, upF_succ, List.append_assoc];rfl
  have h4 : wrap64 (a + (i : Int) + 1) = a + ((i + 1 : Nat) : Int) := by rw [w64] <;> omega
  simp only [laws_markIntS.l0, Ev.ite_iff, h0, h1, h2, ↓reduceIte, w64_succ i (by omega), Int.toNat_natCast, h3, h4]
  exact ih

theorem heldIntS_ev (a : Int) (c : Nat) (ha : 0 ≤ a) (h : a + c < 9223372036854775807) : Ev (fun k => laws_heldIntS.f k (upF a c) a) (a + (c : Int)) := by
 have H := down c (fun i => Ev (fun k => laws_heldIntS.l0 k (upF a c) (a + (i : Int)) i) (a + (c : Int))) ?_ ?_ 0 (by omega)
 ·simpa [laws_heldIntS.f] using H
 ·show Ev _ _
  rw [Ev.iff_succ]
  simp [laws_heldIntS.l0, Ev.now_iff, upF_len]
 ·intro i hi ih
  show Ev _ _
  rw [Ev.iff_succ]
  have h1 : (i : Int) < (c : Int) := by omega
  have h2 : (0 : Int) ≤ i := by omega
  have h4 : wrap64 (a + (i : Int) + 1) = a + ((i + 1 : Nat) : Int) := by rw [w64] <;> omega
  simp only [laws_heldIntS.l0, Ev.ite_iff, upF_len, h1, h2, ↓reduceIte, w64_succ i (by omega), upF_rd hi, h4]
  exact ih

theorem markIntA2S_l0 (M : Int) (hM : M = 9223372036854775807) (d : Nat) : ∀ (l : List S92) (a : Int) (i : Nat), l.length = i + d → (l.length : Int) < M → 0 ≤ a → a + 2 * (d : Int) < M → ∃ r, laws_markIntA2S.l0 (d + 1) l a i = some (a + 2 * (d : Int), r) := by
 induction d with
 | zero =>
  intro l a i h _ _ _
  refine ⟨l, ?_⟩
  rw [laws_markIntA2S.l0, if_neg (by omega)]
  simp
 | succ d ih =>
  intro l a i h hl h0 h1
  have e1 : wrap64 (a + 1) = a + 1 := by rw [w64] <;> omega
  have e2 : wrap64 (a + 1 + 1) = a + 1 + 1 := by rw [w64] <;> omega
  have e3 : (i : Int) < (l.length : Int) := by omega
  have e4 : (0 : Int) ≤ i := by omega
  rw [laws_markIntA2S.l0, if_pos e3, if_pos e4, e1, e2, w64_succ i (by omega)]
  obtain ⟨r, hr⟩ := ih (l.set (i : Int).toNat ⟨a, a + 1⟩) (a + 1 + 1) (i + 1) (by rw [List.length_set];omega) (by rw [List.length_set];exact hl) (by omega) (by omega)
  exact ⟨r, by rw [hr];congr 2;omega⟩

theorem markGraph_eq (n : Int) (l : List S92) (a : Int) (ha : 0 ≤ a) (h : a + 2 * (l.length : Int) < 9223372036854775807) : ∃ r, laws_markGraph.f n l a = some (a + 2 * (l.length : Int), r) := by
 obtain ⟨r, hr⟩ := markIntA2S_l0 _ rfl l.length l a 0 (by omega) (by omega) ha h
 exact ⟨r, by simp only [laws_markGraph.f, laws_markIntA2S.f];rw [show ((0 : Nat) : Int) = 0 from rfl] at hr;rw [hr];rfl⟩

theorem setOf_ev (n m : Nat) (hn : n ≤ 8) (hm : m < 2 ^ n) : Ev (fun k => impl_setOf.f k m) (bl n m) := by
 obtain ⟨t, ht⟩ : ∃ t, t = 9 := ⟨_, rfl⟩
 have hs : ∀ i, n ≤ i → m >>> i = 0 := fun i hi => by
  rw [Nat.shiftRight_eq_div_pow];exact Nat.div_eq_of_lt (Nat.lt_of_lt_of_le hm (Nat.pow_le_pow_right (by decide) hi))
 have H := down n (fun i => Ev (fun k => impl_setOf.l0 k m (bl i m) i) (bl n m)) ?_ ?_ 0 (by omega)
 ·simpa [impl_setOf.f, bl] using H
 ·show Ev _ _
  rw [Ev.iff_succ]
  have h2 : (0 : Int) ≤ n := by omega
  simp [impl_setOf.l0, Ev.now_iff, h2, shr_nat m n (by omega), hs n (Nat.le_refl _)]
 ·intro i hi ih
  show Ev _ _
  rw [Ev.iff_succ]
  have h2 : (0 : Int) ≤ i := by omega
  have h3 := bl_len_le i m
  have h4 : (bl i m).length < 17592186044416 := by omega
  have e3 := shr_bit m i (lt62 hn hm) (by omega)
  rw [bl_step hi] at ih
  simp only [impl_setOf.l0, Ev.ite_iff, h2, h4, ↓reduceIte, w64_succ i (by omega), e3]
  by_cases c : shr .i64 (m : Int) (i : Int) = 0
  ·rw [if_pos c, Ev.now_iff]
   rw [shr_nat m i (by omega)] at c
   have c' : m >>> i = 0 := by omega
   have hb : ∀ j, i ≤ j → m.testBit j = false := fun j hj => by
    have : (m >>> i).testBit (j - i) = false := by rw [c'];simp
    rw [Nat.testBit_shiftRight] at this
    rwa [show i + (j - i) = j by omega] at this
   refine asc_ext (bl_asc _ _) (bl_asc _ _) (fun x => ?_)
   rw [mem_bl, mem_bl]
   constructor
   ·rintro ⟨j, h1, h2, rfl⟩;exact ⟨j, by omega, h2, rfl⟩
   ·rintro ⟨j, h1, h2, rfl⟩
    refine ⟨j, ?_, h2, rfl⟩
    by_cases hj : i ≤ j
    ·rw [hb j hj] at h2;cases h2
    ·omega
  ·rw [if_neg c]
   cases c2 : m.testBit i
   ·rw [c2] at ih;simpa using ih
   ·rw [c2] at ih;simpa using ih

theorem closM_stop {es : List S92} {n m : Nat} {skew : Bool} (g : onceM es n m skew = m) : closM es n skew m = m := by unfold closM; rw [dif_neg (by simp [g])]

theorem closM_once {es : List S92} {n m : Nat} {skew : Bool} (hm : m < 2 ^ n) : closM es n skew (onceM es n m skew) = closM es n skew m := by
 by_cases g : onceM es n m skew = m
 ·rw [g]
 ·conv => rhs;unfold closM
  rw [dif_pos ⟨hm, g⟩]

theorem once_sub {es : List S92} {n m : Nat} {skew : Bool} {i : Nat} (h : m.testBit i = true) : (onceM es n m skew).testBit i = true := fold_bits h n

/-- A row of numbers by places. -/
def rowF (n : Nat) (f : Nat → Int) : List Int := (List.range n).map f

theorem rowF_len (n : Nat) (f : Nat → Int) : (rowF n f).length = n := by simp [rowF]

theorem rowF_rd {n : Nat} {f : Nat → Int} {i : Nat} (h : i < n) : rd (rowF n f) i = f i := by simp [rd, rowF, h]

theorem rowF_set {n : Nat} {f : Nat → Int} {i : Nat} {v : Int} (_ : i < n) : (rowF n f).set i v = rowF n (fun x => if x = i then v else f x) := by
 apply List.ext_getElem
 ·simp [rowF]
 ·intro j h1 h2
  simp only [List.getElem_set, rowF, List.getElem_map, List.getElem_range]
  by_cases e : i = j
  ·subst e;simp
  ·simp [e, show ¬ j = i from fun h => e h.symm]

theorem rdL2_lt (l : List (List Int)) (i : Nat) (h : i < l.length) : rd_L2 l (i : Int) = l[i] := by simp [rd_L2, h]

theorem clos_sub {es : List S92} {n m i : Nat} {skew : Bool} (hm : m < 2 ^ n) (h : m.testBit i = true) : (closM es n skew m).testBit i = true := by
 obtain ⟨d, hd⟩ : ∃ d, d = 2 ^ n - m := ⟨_, rfl⟩
 induction d using Nat.strongRecOn generalizing m with
 | _ d ih =>
  have h1 := onceM_le es n m skew
  have h2 := onceM_lt (es := es) (skew := skew) hm
  by_cases g : onceM es n m skew = m
  ·rw [closM_stop g];exact h
  ·rw [← closM_once hm]
   exact ih _ (by omega) h2 (once_sub h) rfl

theorem closM_full (es : List S92) (n : Nat) (skew : Bool) : closM es n skew (2 ^ n - 1) = 2 ^ n - 1 := by
 have hp := Nat.two_pow_pos n
 have h1 := onceM_lt (es := es) (skew := skew) (show 2 ^ n - 1 < 2 ^ n by omega)
 have h2 := onceM_le es n (2 ^ n - 1) skew
 exact closM_stop (by omega)

/-- The least node of a set that is not empty. -/
def lowM (n S : Nat) : Nat := (List.range n).findIdx (fun x => S.testBit x)

theorem tz_low : ∀ n : Nat, n ≤ 8 → ∀ m : Nat, m < 2 ^ n → m ≠ 0 → Go.Lib.ctz 64 m = lowM n m := by decide +kernel

theorem tz_ev {n m : Nat} (hn : n ≤ 8) (hm : m < 2 ^ n) (h0 : m ≠ 0) : bits_TrailingZeros.f (IntKind.u64.wrap (m : Int)) = some ((lowM n m : Nat) : Int) := by
 have h8 := p8 hn
 rw [u64_wrap_id m (lt62 hn hm)]
 unfold bits_TrailingZeros.f
 rw [if_pos ⟨by omega, by omega⟩, Int.toNat_natCast, tz_low n hn m hm h0]

theorem fold_bit_iff {es : List S92} {n m nx : Nat} {skew : Bool} {y : Nat} : ∀ i, ((List.range i).foldl (fStep es n m skew) nx).testBit y = true ↔ nx.testBit y = true ∨ ∃ x, x < i ∧ ((skew || m.testBit x) && isPow (opM es n m x)) = true ∧ (opM es n m x).testBit y = true
 | 0 => by simp
 | i + 1 => by
  rw [fold_range_succ]
  have ih := fold_bit_iff (es := es) (n := n) (m := m) (nx := nx) (skew := skew) (y := y) i
  generalize (List.range i).foldl (fStep es n m skew) nx = acc at ih ⊢
  unfold fStep
  constructor
  ·intro h
   by_cases c : ((skew || m.testBit i) && isPow (opM es n m i)) = true
   ·rw [if_pos c, Nat.testBit_or, Bool.or_eq_true, ih] at h
    rcases h with (h | ⟨x, hx, h⟩) | h
    ·exact .inl h
    ·exact .inr ⟨x, by omega, h⟩
    ·exact .inr ⟨i, by omega, c, h⟩
   ·rw [if_neg c, ih] at h
    rcases h with h | ⟨x, hx, h⟩
    ·exact .inl h
    ·exact .inr ⟨x, by omega, h⟩
  ·intro h
   have h' : acc.testBit y = true ∨ ((skew || m.testBit i) && isPow (opM es n m i)) = true ∧ (opM es n m i).testBit y = true := by
    rcases h with h | ⟨x, hx, h⟩
    ·exact .inl (ih.2 (.inl h))
    ·by_cases e : x = i
     ·subst e;exact .inr h
     ·exact .inl (ih.2 (.inr ⟨x, by omega, h⟩))
   split
   ·rw [Nat.testBit_or, Bool.or_eq_true]
    rcases h' with h' | h'
    ·exact .inl h'
    ·exact .inr h'.2
   ·rename_i c
    rcases h' with h' | h'
    ·exact h'
    ·exact absurd h'.1 c

theorem once_in {es : List S92} {n m C : Nat} {skew skew2 : Bool} (hn : n ≤ 8) (hs : skew = true → skew2 = true) (hsub : ∀ i, m.testBit i = true → C.testBit i = true) (hst : onceM es n C skew2 = C) {y : Nat} (h : (onceM es n m skew).testBit y = true) : C.testBit y = true := by
 rcases (fold_bit_iff n).1 h with h | ⟨x, hx, hc, hy⟩
 ·exact hsub y h
 ·by_cases g : C.testBit y = true
  ·exact g
  ·rw [Bool.and_eq_true, Bool.or_eq_true] at hc
   obtain ⟨j, hj, he⟩ := isPow_spec n hn _ (opM_lt es n m x) hc.2
   have hyj : j = y := by rw [he, Nat.testBit_two_pow] at hy;simpa using hy
   subst hyj
   have heq : opM es n C x = opM es n m x := by
    refine Nat.eq_of_testBit_eq (fun i => ?_)
    by_cases e : i = j
    ·subst e
     rw [hy]
     unfold opM at hy ⊢
     rw [mns_bit, Bool.and_eq_true] at hy
     rw [mns_bit, hy.1]
     simp [g]
    ·have h1 : (opM es n m x).testBit i = false := by rw [he, Nat.testBit_two_pow];simp;omega
     rw [h1]
     unfold opM at h1 ⊢
     rw [mns_bit] at h1 ⊢
     rw [Bool.and_eq_false_iff] at h1
     rcases h1 with h1 | h1
     ·rw [h1];rfl
     ·have h2 : m.testBit i = true := by simpa using h1
      rw [hsub i h2];simp
   rw [← hst]
   refine (fold_bit_iff n).2 (.inr ⟨x, hx, ?_, by rw [heq];exact hy⟩)
   rw [heq, hc.2, Bool.and_true, Bool.or_eq_true]
   rcases hc.1 with h1 | h1
   ·exact .inl (hs h1)
   ·exact .inr (hsub x h1)

theorem clos_in {es : List S92} {n C : Nat} {skew skew2 : Bool} (hn : n ≤ 8) (hs : skew = true → skew2 = true) (hst : onceM es n C skew2 = C) : ∀ m, m < 2 ^ n → (∀ i, m.testBit i = true → C.testBit i = true) → ∀ y, (closM es n skew m).testBit y = true → C.testBit y = true := by
 intro m
 obtain ⟨d, hd⟩ : ∃ d, d = 2 ^ n - m := ⟨_, rfl⟩
 induction d using Nat.strongRecOn generalizing m with
 | _ d ih =>
  intro hm hsub y hy
  unfold closM at hy
  by_cases c : onceM es n m skew = m
  ·rw [dif_neg (by simp [c])] at hy
   exact hsub y hy
  ·have h1 := onceM_le es n m skew
   have h2 := onceM_lt (es := es) (skew := skew) hm
   rw [dif_pos ⟨hm, c⟩] at hy
   exact ih _ (by omega) _ rfl h2 (fun i hi => once_in hn hs hsub hst hi) y hy

/-- A closure stands. -/
theorem clos_stable {es : List S92} {n : Nat} {skew : Bool} : ∀ m, m < 2 ^ n → onceM es n (closM es n skew m) skew = closM es n skew m := by
 intro m
 obtain ⟨d, hd⟩ : ∃ d, d = 2 ^ n - m := ⟨_, rfl⟩
 induction d using Nat.strongRecOn generalizing m with
 | _ d ih =>
  intro hm
  by_cases c : onceM es n m skew = m
  ·rw [closM_stop c];exact c
  ·have h1 := onceM_le es n m skew
   have h2 := onceM_lt (es := es) (skew := skew) hm
   rw [← closM_once hm]
   exact ih _ (by omega) _ rfl h2

/-- A closure grows with its set. -/
theorem clos_mono {es : List S92} {n m m' : Nat} {skew skew2 : Bool} (hn : n ≤ 8) (hs : skew = true → skew2 = true) (hm : m < 2 ^ n) (hm' : m' < 2 ^ n) (h : ∀ i, m.testBit i = true → m'.testBit i = true) {y : Nat} (hy : (closM es n skew m).testBit y = true) : (closM es n skew2 m').testBit y = true :=
 clos_in hn hs (clos_stable m' hm') m hm (fun i hi => clos_sub hm' (h i hi)) y hy

/-- The first coloured node with just one neighbor that is not coloured. -/
def stepX (es : List S92) (n m : Nat) : Option Nat := (List.range n).find? (fun x => m.testBit x && isPow (opM es n m x))

def stepY (es : List S92) (n m x : Nat) : Nat := (opM es n m x).log2

def updF (F : Nat → Int) (x y : Nat) : Nat → Int := fun z => if z = x then (y : Int) else F z

/-- What forces which node, when all that can be coloured one by one is. -/
def runC (es : List S92) (n : Nat) : Nat → Nat → (Nat → Int) → Option (Nat → Int)
 | 0, _, _ => none
 | d + 1, m, F => if m = 2 ^ n - 1 then some F else match stepX es n m with
  | none => none
  | some x => runC es n d (m ||| 2 ^ stepY es n m x) (updF F x (stepY es n m x))

end Go.Proofs.YthbjajppdomhhaaDoor.QReversedSet
