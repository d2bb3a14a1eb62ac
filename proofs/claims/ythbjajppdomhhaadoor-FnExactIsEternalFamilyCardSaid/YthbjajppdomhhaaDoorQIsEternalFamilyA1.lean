import Derived.Test.YthbjajppdomhhaaDoorQIsEternalFamily0
import Derived.Test.YthbjajppdomhhaaDoorQIsEternalFamily1
import Derived.Test.YthbjajppdomhhaaDoorQIsEternalFamily10
import Derived.Test.YthbjajppdomhhaaDoorQIsEternalFamily11
import Derived.Test.YthbjajppdomhhaaDoorQIsEternalFamily12
import Derived.Test.YthbjajppdomhhaaDoorQIsEternalFamily13
import Derived.Test.YthbjajppdomhhaaDoorQIsEternalFamily2
import Derived.Test.YthbjajppdomhhaaDoorQIsEternalFamily3
import Derived.Test.YthbjajppdomhhaaDoorQIsEternalFamily8
import Derived.Test.YthbjajppdomhhaaDoorQIsEternalFamily9
import Derived.Test.YthbjajppdomhhaaDoorQIsEternalFamilyA0
namespace Go.Proofs.YthbjajppdomhhaaDoor.QIsEternalFamily
open Go.RowKit Go.Proofs.YthbjajppdomhhaaDoorW.PrintWords Go.Proofs.YthbjajppdomhhaaDoorW.PrintLast Go.Proofs.YthbjajppdomhhaaDoorW.PrintMore
attribute [local go_sem] max2_int min2_int max_two min_two max_three min_three max_four min_four   -- for this text's walks alone
set_option linter.unusedVariables false
set_option linter.unusedSimpArgs false
/-- The rows of the net of a graph. -/
def nets (es : List S92) (n : Nat) : List Int := (List.range n).map (fun x => Int.ofNat (nb es n x))

theorem nets_len (es : List S92) (n : Nat) : (nets es n).length = n := by simp [nets]

theorem nets_rd {es : List S92} {n i : Nat} (h : i < n) : rd (nets es n) i = (nb es n i : Nat) := by simp [rd, nets, h]

def okG (n : Int) (es : List S92) : Bool := decide (0 ≤ n ∧ n ≤ 8) && goodL n none es

theorem netOf_eq {n : Nat} {es : List S92} (h : okG n es = true) : impl_netOf.f n es = some (nets es n) := by
 have h2 := h
 simp only [okG, Bool.and_eq_true, decide_eq_true_eq] at h2
 have hn : n ≤ 8 := by omega
 have hz : List.replicate n (0 : Int) = netW n (fun _ _ => false) := by
  apply List.ext_getElem
  ·simp [netW]
  ·intro i h1 h3
   have hm : mk n (fun _ => false) = 0 := mask_ext (n := n) (mk_lt _ _) (Nat.two_pow_pos n) (fun i _ => by rw [mk_bit];simp)
   simp [netW, hm]
 show (if okG n es = true then some (es.foldl netStep (List.replicate (n : Int).toNat 0)) else none) = _
 rw [if_pos h, Int.toNat_natCast, hz, netW_fold hn es _ (goodL_all h2.2)]
 simp [netW, nets, nb]

/-- What one set has and another one lacks. -/
def mns (a b : Nat) : Nat := a ^^^ (a &&& b)

theorem mns_bit (a b i : Nat) : (mns a b).testBit i = (a.testBit i && !b.testBit i) := by
 unfold mns
 rw [Nat.testBit_xor, Nat.testBit_and]
 cases a.testBit i <;> cases b.testBit i <;> rfl

theorem mns_lt {n a : Nat} (b : Nat) (h : a < 2 ^ n) : mns a b < 2 ^ n := lt_of_bits fun i hi => by rw [mns_bit, bit_lt h hi]; rfl

theorem gandn (a b : Nat) (ha : a < 2 ^ 62) (hb : b < 2 ^ 62) : Go.bits .andNot .i64 (a : Int) (b : Int) = ((mns a b : Nat) : Int) := by
 have h1 : (BitVec.ofNat 64 a &&& ~~~ BitVec.ofNat 64 b).toNat = mns a b := by
  apply Nat.eq_of_testBit_eq
  intro i
  rw [BitVec.testBit_toNat, mns_bit, BitVec.getLsbD_and, BitVec.getLsbD_not, BitVec.getLsbD_ofNat, BitVec.getLsbD_ofNat]
  by_cases hi : i < 64
  ·simp [hi]
  ·have h62 : ∀ {c : Nat}, c < 2 ^ 62 → c.testBit i = false := fun h => bit_lt h (by omega)
   simp [hi, h62 ha]
 have h2 : mns a b < 2 ^ 62 := mns_lt b ha
 show IntKind.i64.wrap (((BitVec.ofInt 64 (a : Int) &&& ~~~ BitVec.ofInt 64 (b : Int)).toNat : Nat) : Int) = _
 rw [BitVec.ofInt_natCast, BitVec.ofInt_natCast, h1]
 exact i64_wrap_id _ (by omega) (by exact_mod_cast h2)

theorem lt62 {n m : Nat} (hn : n ≤ 8) (h : m < 2 ^ n) : m < 2 ^ 62 := Nat.lt_of_lt_of_le h (Nat.pow_le_pow_right (by decide) (by omega))

theorem shr_nat (a x : Nat) (h : x < 62) : shr .i64 (a : Int) (x : Int) = ((a >>> x : Nat) : Int) := by
 unfold shr
 have hb : IntKind.bits .i64 = 64 := rfl
 rw [Int.toNat_natCast, hb, Nat.min_eq_left (by omega), Nat.shiftRight_eq_div_pow]
 simp

theorem shr_bit (a x : Nat) (ha : a < 2 ^ 62) (h : x < 62) : Go.bits .and .i64 (shr .i64 (a : Int) (x : Int)) 1 = if a.testBit x then 1 else 0 := by
 have h1 : a >>> x < 2 ^ 62 := Nat.lt_of_le_of_lt (Nat.shiftRight_le a x) ha
 rw [shr_nat a x h, show (1 : Int) = ((1 : Nat) : Int) from rfl, gand _ _ h1 (by decide)]
 simp only [Nat.testBit, bne_iff_ne, ne_eq]
 rw [Nat.and_comm 1, Nat.and_one_is_mod]
 have := Nat.mod_two_eq_zero_or_one (a >>> x)
 rcases this with h | h <;> simp [h]

theorem mask_all (n : Nat) (h : n ≤ 8) : wrap64 (shl .i64 1 (n : Int) - 1) = ((2 ^ n - 1 : Nat) : Int) := by
 rw [shl_one (by omega)]
 have h1 := p8 h
 have h2 : 0 < 2 ^ n := Nat.two_pow_pos n
 rw [w64 (by omega) (by omega)]
 omega

theorem l1Own_eq {l : List Int} (h : l.length < 17592186044416) : spec_l1Own.f l = some l := by simp [spec_l1Own.f, h]

theorem u64_wrap_id (m : Nat) (h : m < 2 ^ 62) : IntKind.u64.wrap (m : Int) = (m : Int) := by rw [IntKind.wrap_u64]; omega

theorem ones_small : ∀ n : Nat, n ≤ 8 → ∀ m : Nat, m < 2 ^ n → bits_OnesCount.f (m : Int) = some (((bl n m).length : Nat) : Int) := by decide +kernel

theorem ones_bl {n m : Nat} (hn : n ≤ 8) (hm : m < 2 ^ n) : bits_OnesCount.f (IntKind.u64.wrap (m : Int)) = some (((bl n m).length : Nat) : Int) := by
 rw [u64_wrap_id m (lt62 hn hm), ones_small n hn m hm]

theorem set_fill {α : Type} (l : List α) (z : α) (i : Nat) (h : i < l.length) : (l.take i ++ List.replicate (l.length - i) z).set i l[i] = l.take (i + 1) ++ List.replicate (l.length - (i + 1)) z := by
 rw [List.take_succ_eq_append_getElem h, show l.length - i = (l.length - (i + 1)) + 1 by omega, List.replicate_succ]
 have h1 : (l.take i).length = i := by rw [List.length_take];omega
 rw [List.set_append_right _ _ (by omega), h1, Nat.sub_self, List.set_cons_zero, List.append_assoc]
 rfl

theorem toIntS_ev (l : List Int) (hl : l.length ≤ 35184372088832) : Ev (fun k => laws_toIntS.f k l) l := by
 unfold laws_toIntS.f
 rw [Ev.ite_iff, if_pos (by omega), Ev.ite_iff, if_pos (by omega), Int.toNat_natCast]
 have H := down l.length (fun i => Ev (fun k => laws_toIntS.l0 k l (l.take i ++ List.replicate (l.length - i) 0) i) l) ?_ ?_ 0 (by omega)
 ·simpa using H
 ·show Ev _ _
  rw [Ev.iff_succ]
  simp [laws_toIntS.l0, Ev.now_iff]
 ·intro i hi ih
  show Ev _ _
  rw [Ev.iff_succ]
  have h1 : (i : Int) < l.length := by omega
  have h2 : (0 : Int) ≤ i := by omega
  have h3 : (i : Int) < ((l.take i ++ List.replicate (l.length - i) (0 : Int)).length : Int) := by
   rw [List.length_append, List.length_take, List.length_replicate];omega
  simp only [laws_toIntS.l0, Ev.ite_iff, h1, h2, h3, ↓reduceIte, w64_succ i (by omega), rd_lt l i hi, Int.toNat_natCast]
  rw [set_fill l 0 i hi]
  exact ih

theorem toIntA2_eq (a b : Int) : laws_toIntA2.f a b = some (a, b) := rfl

theorem toIntA2S_ev (l : List S92) (hl : l.length ≤ 17592186044416) : Ev (fun k => laws_toIntA2S.f k l) l := by
 unfold laws_toIntA2S.f
 rw [Ev.ite_iff, if_pos (by omega), Ev.ite_iff, if_pos (by omega), Int.toNat_natCast]
 have H := down l.length (fun i => Ev (fun k => laws_toIntA2S.l0 k l (l.take i ++ List.replicate (l.length - i) z92) i) l) ?_ ?_ 0 (by omega)
 ·simpa using H
 ·show Ev _ _
  rw [Ev.iff_succ]
  simp [laws_toIntA2S.l0, Ev.now_iff]
 ·intro i hi ih
  show Ev _ _
  rw [Ev.iff_succ]
  have h1 : (i : Int) < l.length := by omega
  have h2 : (0 : Int) ≤ i := by omega
  have h3 : (i : Int) < ((l.take i ++ List.replicate (l.length - i) z92).length : Int) := by
   rw [List.length_append, List.length_take, List.length_replicate];omega
  have h4 : rd_T92 l i = l[i] := by simp [rd_T92, hi]
  simp only [laws_toIntA2S.l0, Ev.ite_iff, h1, h2, ↓reduceIte, toIntA2_eq, Option.bind_some, h3, w64_succ i (by omega), h4, Int.toNat_natCast]
  rw [set_fill l _ i hi]
  exact ih

theorem toGraph_ev (n : Int) (es : List S92) (hl : es.length ≤ 17592186044416) : Ev (fun k => laws_toGraph.f k n es) (n, es) := by
 unfold laws_toGraph.f
 rw [Ev.bind_iff (toIntA2S_ev es hl), Ev.now_iff]

theorem eqIntS_refl (l : List Int) (hl : l.length ≤ 9223372036854775807) : Ev (fun k => laws_eqIntS.f k l l) true := by
 unfold laws_eqIntS.f
 rw [Ev.ite_iff, if_pos rfl]
 have H := down l.length (fun i => Ev (fun k => laws_eqIntS.l0 k l l i) true) ?_ ?_ 0 (by omega)
 ·simpa using H
 ·show Ev _ _
  rw [Ev.iff_succ]
  simp [laws_eqIntS.l0, Ev.now_iff]
 ·intro i hi ih
  show Ev _ _
  rw [Ev.iff_succ]
  have h1 : (i : Int) < l.length := by omega
  have h2 : (0 : Int) ≤ i := by omega
  simp only [laws_eqIntS.l0, Ev.ite_iff, h1, h2, ↓reduceIte, w64_succ i (by omega)]
  exact ih

theorem eqIntA2_refl (a b : Int) : laws_eqIntA2.f a b a b = some true := by simp [laws_eqIntA2.f]

theorem eqGraph_refl (n : Int) (es : List S92) (hl : es.length ≤ 9223372036854775807) : Ev (fun k => laws_eqGraph.f k n es n es) true := by
 have H0 : Ev (fun k => laws_eqIntA2S.f k es es) true := by
  unfold laws_eqIntA2S.f
  rw [Ev.ite_iff, if_pos rfl]
  have H := down es.length (fun i => Ev (fun k => laws_eqIntA2S.l0 k es es i) true) ?_ ?_ 0 (by omega)
  ·simpa using H
  ·show Ev _ _
   rw [Ev.iff_succ]
   simp [laws_eqIntA2S.l0, Ev.now_iff]
  ·intro i hi ih
   show Ev _ _
   rw [Ev.iff_succ]
   have h1 : (i : Int) < es.length := by omega
   have h2 : (0 : Int) ≤ i := by omega
   simp only [laws_eqIntA2S.l0, Ev.ite_iff, h1, h2, ↓reduceIte, w64_succ i (by omega), eqIntA2_refl, Option.bind_some]
   exact ih
 unfold laws_eqGraph.f
 rw [Ev.ite_iff, if_pos rfl, Ev.bind_iff H0, Ev.ite_iff, if_pos rfl, Ev.now_iff]

theorem szGraph_eq (n : Int) (es : List S92) (hl : es.length ≤ 9223372036854775807) : laws_szGraph.f n es 1048576 = some (if es.length ≤ 1048576 then 1048576 - (es.length : Int) else -1) := by
 unfold laws_szGraph.f laws_szIntA2S.f
 rw [w64 (by omega) (by omega)]
 by_cases h : es.length ≤ 1048576
 ·rw [if_neg (by omega), if_pos h, Option.bind_some, if_neg (by omega)]
 ·rw [if_pos (by omega), if_neg h, Option.bind_some, if_pos (by omega)]

/-- A graph is valid and a list is a set of its nodes. -/
def setB (n : Int) (es : List S92) (l : List Int) : Bool := okG n es && (allIn 0 (wrap64 (n - 1)) l && ascB none l)

theorem setB_use {n : Int} {es : List S92} {l : List Int} (h : setB n es l = true) : ∃ N m : Nat, n = N ∧ N ≤ 8 ∧ okG N es = true ∧ (∀ e ∈ es, edgeOk N e = true) ∧ m < 2 ^ N ∧ l = bl N m ∧ mL l = m := by
 simp only [setB, Bool.and_eq_true] at h
 obtain ⟨h1, h2, h3⟩ := h
 have h4 := h1
 simp only [okG, Bool.and_eq_true, decide_eq_true_eq] at h4
 obtain ⟨N, rfl⟩ : ∃ N : Nat, n = N := ⟨n.toNat, by omega⟩
 rw [w64 (by omega) (by omega)] at h2
 have h5 : ∀ x ∈ l, 0 ≤ x ∧ x < (N : Int) := fun x hx => by
  simp only [allIn, List.all_eq_true, decide_eq_true_eq] at h2
  have := h2 x hx
  omega
 exact ⟨N, mL l, rfl, by omega, h1, goodL_all h4.2, mL_lt h5, bl_of_asc h2 h3, rfl⟩

theorem l2Good_eq (n : Int) (es : List S92) : spec_l2Good.f n es = some (okG n es) := rfl

theorem IsGraph_eq (n : Int) (es : List S92) : impl_IsGraph.f n es = some (okG n es) := rfl

theorem l2Set_ev (n : Int) (es : List S92) (l : List Int) (hl : l.length ≤ 9223372036854775807) : Ev (fun k => spec_l2Set.f k n es l) (allIn 0 (wrap64 (n - 1)) l && ascB none l) := by
 unfold spec_l2Set.f
 rw [Ev.bind_iff (l1Rising_ev l 0 _ hl), Ev.now_iff]

theorem hasNodes_ev (n : Int) (es : List S92) (l : List Int) (hl : l.length ≤ 9223372036854775807) : Ev (fun k => impl_hasNodes.f k n es l) (okG n es && allIn 0 (wrap64 (n - 1)) l) := by
 unfold impl_hasNodes.f
 rw [IsGraph_eq]
 simp only [Option.bind_some, Ev.ite_iff]
 split
 ·rename_i h
  rw [Ev.bind_iff (allWithin_ev l 0 _ hl), Ev.now_iff, h, Bool.true_and]
 ·rename_i h
  rw [Ev.now_iff, Bool.eq_false_iff.2 h, Bool.false_and]

theorem isSet_ev (n : Int) (es : List S92) (l : List Int) (hl : l.length ≤ 9223372036854775807) : Ev (fun k => impl_isSet.f k n es l) (setB n es l) := by
 unfold impl_isSet.f
 rw [Ev.bind_iff (hasNodes_ev n es l hl), Ev.ite_iff]
 unfold setB
 split
 ·rename_i h
  rw [Ev.bind_iff (increasing_ev l hl), Ev.now_iff, ← Bool.and_assoc, h, Bool.true_and]
 ·rename_i h
  rw [Ev.now_iff, ← Bool.and_assoc, Bool.eq_false_iff.2 h, Bool.false_and]

theorem maskOf_ev (l : List Int) (hl : l.length ≤ 9223372036854775807) (h : ∀ x ∈ l, 0 ≤ x ∧ x < 8) : Ev (fun k => impl_maskOf.f k l) ((mL l : Nat) : Int) := by
 have hm : ∀ s : List Int, (∀ x ∈ s, 0 ≤ x ∧ x < 8) → mL s < 2 ^ 8 := fun s hs => mL_lt (n := 8) hs
 have H := down l.length (fun i => ∀ acc : Nat, acc < 2 ^ 8 → Ev (fun k => impl_maskOf.l0 k acc l l.length i) ((acc ||| mL (l.drop i) : Nat) : Int)) ?_ ?_ 0 (by omega) 0 (by decide)
 ·simpa [impl_maskOf.f] using H
 ·intro acc _
  rw [Ev.iff_succ]
  simp [impl_maskOf.l0, Ev.now_iff, mL]
 ·intro i hi ih acc ha
  rw [Ev.iff_succ]
  have h1 : (i : Int) < l.length := by omega
  have h2 : (0 : Int) ≤ i := by omega
  have hx := h l[i] (List.getElem_mem hi)
  obtain ⟨a, s, e1, e2, e3, e4⟩ := dropc l i hi
  rw [e4] at hx
  obtain ⟨x, rfl⟩ : ∃ x : Nat, a = x := ⟨a.toNat, by omega⟩
  have hp : 2 ^ x < 2 ^ 8 := Nat.pow_lt_pow_right (by decide) (by omega)
  have h62 : ∀ {c : Nat}, c < 2 ^ 8 → c < 2 ^ 62 := fun h => by omega
  simp only [impl_maskOf.l0, Ev.ite_iff, h1, h2, hx.1, ↓reduceIte, w64_succ i (by omega), e3]
  rw [shl_one (by omega), gor _ _ (h62 ha) (h62 hp)]
  have := ih (acc ||| 2 ^ x) (Nat.or_lt_two_pow ha hp)
  rw [e2] at this
  rw [e1, mL, Int.toNat_natCast, ← Nat.or_assoc]
  exact this

theorem all_eq {es : List S92} {n : Nat} (h : n ≤ 8) : impl_net_all.f (nets es n) = some ((2 ^ n - 1 : Nat) : Int) := by
 unfold impl_net_all.f
 rw [nets_len, mask_all n h]

theorem setOf_ev (n m : Nat) (hn : n ≤ 8) (hm : m < 2 ^ n) : Ev (fun k => impl_setOf.f k m) (bl n m) := by
 obtain ⟨t, ht⟩ : ∃ t, t = 9 := ⟨_, rfl⟩
 have hs : ∀ i, n ≤ i → m >>> i = 0 := fun i hi => by
  rw [Nat.shiftRight_eq_div_pow];exact Nat.div_eq_of_lt (Nat.lt_of_lt_of_le hm (Nat.pow_le_pow_right (by decide) hi))
 have H := down n (fun i => Ev (fun k => impl_setOf.l0 k m (bl i m) i) (bl n m)) ?_ ?_ 0 (by omega)
 ·simpa [impl_setOf.f, bl] using H
 ·show Ev _ _
  rw [Ev.iff_succ]
  have h2 : (0 : Int) ≤ n := by omega
  simp [impl_setOf.l0, Ev.now_iff, h2, shr_nat m n (by omega), hs n (Nat.le_refl _)]
 ·intro i hi ih
  show Ev _ _
  rw [Ev.iff_succ]
  have h2 : (0 : Int) ≤ i := by omega
  have h3 := bl_len_le i m
  have h4 : (bl i m).length < 17592186044416 := by omega
  have e3 := shr_bit m i (lt62 hn hm) (by omega)
  rw [bl_step hi] at ih
  simp only [impl_setOf.l0, Ev.ite_iff, h2, h4, ↓reduceIte, w64_succ i (by omega), e3]
  by_cases c : shr .i64 (m : Int) (i : Int) = 0
  ·rw [if_pos c, Ev.now_iff]
   rw [shr_nat m i (by omega)] at c
   have c' : m >>> i = 0 := by omega
   have hb : ∀ j, i ≤ j → m.testBit j = false := fun j hj => by
    have : (m >>> i).testBit (j - i) = false := by rw [c'];simp
    rw [Nat.testBit_shiftRight] at this
    rwa [show i + (j - i) = j by omega] at this
   refine asc_ext (bl_asc _ _) (bl_asc _ _) (fun x => ?_)
   rw [mem_bl, mem_bl]
   constructor
   ·rintro ⟨j, h1, h2, rfl⟩;exact ⟨j, by omega, h2, rfl⟩
   ·rintro ⟨j, h1, h2, rfl⟩
    refine ⟨j, ?_, h2, rfl⟩
    by_cases hj : i ≤ j
    ·rw [hb j hj] at h2;cases h2
    ·omega
  ·rw [if_neg c]
   cases c2 : m.testBit i
   ·rw [c2] at ih;simpa using ih
   ·rw [c2] at ih;simpa using ih

theorem okG_use {n : Int} {es : List S92} (h : okG n es = true) : ∃ N : Nat, n = N ∧ N ≤ 8 := by
 simp only [okG, Bool.and_eq_true, decide_eq_true_eq] at h
 exact ⟨n.toNat, by omega, by omega⟩

theorem rdL2_lt (l : List (List Int)) (i : Nat) (h : i < l.length) : rd_L2 l (i : Int) = l[i] := by simp [rd_L2, h]

/-- Lists of lists: their size is told, or is too great. -/
theorem szIntSS_ev : ∀ (L : List (List Int)) (a : Nat), a ≤ 1048576 → L.length ≤ 9223372036854775807 → (∀ r ∈ L, r.length ≤ 9223372036854775807) →
  ∃ z : Int, Ev (fun k => laws_szIntSS.f k L (a : Int)) z ∧ (z < 0 ∨ (0 ≤ z ∧ L.length ≤ 1048576 ∧ (∀ r ∈ L, r.length ≤ 1048576) ∧ (L.map List.length).sum ≤ 1048576)) := by
 intro L a ha hL hr
 unfold laws_szIntSS.f
 by_cases c : (L.length : Int) ≤ a
 case neg => exact ⟨-1, by rw [Ev.ite_iff, if_pos (by rw [w64] <;> omega), Ev.now_iff], .inl (by decide)⟩
 have hw : wrap64 ((a : Int) - (L.length : Int)) = ((a - L.length : Nat) : Int) := by rw [w64] <;> omega
 have H := down L.length (fun i => ∀ b : Nat, b ≤ 1048576 → ∃ z : Int, Ev (fun k => laws_szIntSS.l0 k L (b : Int) i) z ∧ (z < 0 ∨ (0 ≤ z ∧ (∀ r ∈ L.drop i, r.length ≤ 1048576) ∧ ((L.drop i).map List.length).sum ≤ b))) ?_ ?_ 0 (by omega) (a - L.length) (by omega)
 ·obtain ⟨z, h1, h2⟩ := H
  refine ⟨z, ?_, ?_⟩
  ·rw [Ev.ite_iff, hw, if_neg (by omega)];exact h1
  ·rcases h2 with h | ⟨h, h'⟩
   ·exact .inl h
   ·exact .inr ⟨h, by omega, by simpa using h'.1, by have := h'.2;rw [List.drop_zero] at this;omega⟩
 ·intro b _
  refine ⟨b, ?_, .inr ⟨by omega, by simp, by simp⟩⟩
  rw [Ev.iff_succ]
  simp only [laws_szIntSS.l0, Int.lt_irrefl, ↓reduceIte, Ev.now_iff]
 ·intro i hi ih b hb
  have h1 : (i : Int) < L.length := by omega
  have h2 : (0 : Int) ≤ i := by omega
  have hri := hr L[i] (List.getElem_mem hi)
  by_cases d : (L[i].length : Int) ≤ b
  case neg =>
   refine ⟨-1, ?_, .inl (by decide)⟩
   rw [Ev.iff_succ]
   have hw : wrap64 ((b : Int) - (L[i].length : Int)) < 0 := by rw [w64] <;> omega
   simp only [laws_szIntSS.l0, Ev.ite_iff, h1, h2, ↓reduceIte, rdL2_lt L i hi, laws_szIntS.f, hw, Option.bind_some, Ev.now_iff]
   rw [if_pos (by decide)];trivial
  have hw : wrap64 ((b : Int) - (L[i].length : Int)) = ((b - L[i].length : Nat) : Int) := by rw [w64] <;> omega
  obtain ⟨z, h3, h4⟩ := ih (b - L[i].length) (by omega)
  refine ⟨z, ?_, ?_⟩
  ·rw [Ev.iff_succ]
   simp only [laws_szIntSS.l0, Ev.ite_iff, h1, h2, ↓reduceIte, rdL2_lt L i hi, laws_szIntS.f, hw, show ¬ (((b - L[i].length : Nat) : Int) < 0) by omega, Option.bind_some, w64_succ i (show i < 9223372036854775807 by omega)]
   exact h3
  ·rcases h4 with h | ⟨h, h'⟩
   ·exact .inl h
   ·refine .inr ⟨h, fun r hr => ?_, ?_⟩
    ·rw [List.drop_eq_getElem_cons hi] at hr
     rcases List.mem_cons.1 hr with e | e
     ·subst e;omega
     ·exact h'.1 r e
    ·rw [List.drop_eq_getElem_cons hi, List.map_cons, List.sum_cons]
     have := h'.2
     omega

theorem toIntSS_ev (L : List (List Int)) (hL : L.length ≤ 1048576) (hr : ∀ r ∈ L, r.length ≤ 1048576) : Ev (fun k => laws_toIntSS.f k L) L := by
 unfold laws_toIntSS.f
 rw [Ev.ite_iff, if_pos (by omega), Ev.ite_iff, if_pos (by omega), Int.toNat_natCast]
 have H := down L.length (fun i => Ev (fun k => laws_toIntSS.l0 k L (L.take i ++ List.replicate (L.length - i) []) i) L) ?_ ?_ 0 (by omega)
 ·simpa using H
 ·show Ev _ _
  rw [Ev.iff_succ]
  simp [laws_toIntSS.l0, Ev.now_iff]
 ·intro i hi ih
  show Ev _ _
  rw [Ev.iff_succ]
  have h1 : (i : Int) < L.length := by omega
  have h2 : (0 : Int) ≤ i := by omega
  have h3 : (i : Int) < ((L.take i ++ List.replicate (L.length - i) ([] : List Int)).length : Int) := by
   rw [List.length_append, List.length_take, List.length_replicate];omega
  have hri := hr L[i] (List.getElem_mem hi)
  simp only [laws_toIntSS.l0, Ev.ite_iff, h1, h2, ↓reduceIte, w64_succ i (by omega), rdL2_lt L i hi, Int.toNat_natCast]
  rw [Ev.bind_iff (toIntS_ev L[i] (by omega))]
  simp only [Ev.ite_iff, h3, ↓reduceIte]
  rw [set_fill L [] i hi]
  exact ih

theorem eqIntSS_refl (L : List (List Int)) (hL : L.length ≤ 9223372036854775807) (hr : ∀ r ∈ L, r.length ≤ 9223372036854775807) : Ev (fun k => laws_eqIntSS.f k L L) true := by
 unfold laws_eqIntSS.f
 rw [Ev.ite_iff, if_pos rfl]
 have H := down L.length (fun i => Ev (fun k => laws_eqIntSS.l0 k L L i) true) ?_ ?_ 0 (by omega)
 ·simpa using H
 ·show Ev _ _
  rw [Ev.iff_succ]
  simp [laws_eqIntSS.l0, Ev.now_iff]
 ·intro i hi ih
  show Ev _ _
  rw [Ev.iff_succ]
  have h1 : (i : Int) < L.length := by omega
  have h2 : (0 : Int) ≤ i := by omega
  have hri := hr L[i] (List.getElem_mem hi)
  simp only [laws_eqIntSS.l0, Ev.ite_iff, h1, h2, ↓reduceIte, w64_succ i (by omega), rdL2_lt L i hi]
  rw [Ev.bind_iff (eqIntS_refl L[i] hri)]
  simp only [↓reduceIte]
  exact ih

theorem closed_eq {es : List S92} {n x : Nat} (hn : n ≤ 8) (hx : x < n) : impl_net_closed.f (nets es n) (x : Int) = some (((nb es n x ||| 2 ^ x : Nat)) : Int) := by
 unfold impl_net_closed.f
 rw [if_pos (by omega), if_pos (by rw [nets_len];omega), nets_rd hx, shl_one (by omega), gor _ _ (lt62 hn (nb_lt es n x)) (lt62 hn (Nat.pow_lt_pow_right (by decide) hx))]

/-- The least node of a set that is not empty. -/
def lowM (n S : Nat) : Nat := (List.range n).findIdx (fun x => S.testBit x)

theorem lowM_use {n S : Nat} (h : S < 2 ^ n) (h0 : S ≠ 0) : lowM n S < n ∧ S.testBit (lowM n S) = true := by
 have hex : ∃ x ∈ List.range n, S.testBit x = true := by
  apply Classical.byContradiction
  intro hn
  apply h0
  refine Nat.eq_of_testBit_eq (fun i => ?_)
  rw [Nat.zero_testBit, Bool.eq_false_iff]
  intro hb
  by_cases hi : i < n
  ·exact hn ⟨i, List.mem_range.2 hi, hb⟩
  ·rw [bit_lt h (by omega)] at hb;cases hb
 have hlt := List.findIdx_lt_length.2 hex
 have hg := List.findIdx_getElem (w := hlt)
 rw [List.length_range] at hlt
 simp only [List.getElem_range] at hg
 exact ⟨hlt, hg⟩

theorem tz_low : ∀ n : Nat, n ≤ 8 → ∀ m : Nat, m < 2 ^ n → m ≠ 0 → Go.Lib.ctz 64 m = lowM n m := by decide +kernel

theorem tz_ev {n m : Nat} (hn : n ≤ 8) (hm : m < 2 ^ n) (h0 : m ≠ 0) : bits_TrailingZeros.f (IntKind.u64.wrap (m : Int)) = some ((lowM n m : Nat) : Int) := by
 have h8 := p8 hn
 rw [u64_wrap_id m (lt62 hn hm)]
 unfold bits_TrailingZeros.f
 rw [if_pos ⟨by omega, by omega⟩, Int.toNat_natCast, tz_low n hn m hm h0]

/-- Each one of some guards can stay or go to a node of a set, no two to the same one. -/
def canM (es : List S92) (n : Nat) : List Nat → Nat → Bool
 | [], _ => true
 | g :: gs, S => (bl n ((nb es n g ||| 2 ^ g) &&& S)).any (fun x => canM es n gs (mns S (2 ^ x.toNat)))

end Go.Proofs.YthbjajppdomhhaaDoor.QIsEternalFamily
