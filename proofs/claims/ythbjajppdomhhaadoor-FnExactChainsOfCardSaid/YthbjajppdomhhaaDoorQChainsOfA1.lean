import Derived.Test.YthbjajppdomhhaaDoorQChainsOf0
import Derived.Test.YthbjajppdomhhaaDoorQChainsOf1
import Derived.Test.YthbjajppdomhhaaDoorQChainsOf11
import Derived.Test.YthbjajppdomhhaaDoorQChainsOf3
import Derived.Test.YthbjajppdomhhaaDoorQChainsOf4
import Derived.Test.YthbjajppdomhhaaDoorQChainsOf6
import Derived.Test.YthbjajppdomhhaaDoorQChainsOf7
import Derived.Test.YthbjajppdomhhaaDoorQChainsOf9
import Derived.Test.YthbjajppdomhhaaDoorQChainsOfA0
namespace Go.Proofs.YthbjajppdomhhaaDoor.QChainsOf
open Go.RowKit Go.Proofs.YthbjajppdomhhaaDoorW.PrintWords Go.Proofs.YthbjajppdomhhaaDoorW.PrintLast Go.Proofs.YthbjajppdomhhaaDoorW.PrintMore
attribute [local go_sem] max2_int min2_int max_two min_two max_three min_three max_four min_four   -- for this text's walks alone
set_option linter.unusedVariables false
set_option linter.unusedSimpArgs false
theorem l5Among_ev (n : Nat) (es : List S92) (set : List Int) (x : Nat) (hn : n ≤ 8) (hl : es.length ≤ 9223372036854775807) (hs : set.length ≤ 9223372036854775807) :
  Ev (fun k => spec_l5Among.f k n es set x) (lack set (bl n (nb es n x))) := by
 have hlen := bl_len_le n (nb es n x)
 unfold spec_l5Among.f
 rw [Ev.bind_iff (l2Neighbors_ev n es x hn hl)]
 generalize bl n (nb es n x) = l at hlen ⊢
 have H := down l.length (fun i => Ev (fun k => spec_l5Among.l0 k set (lack set (l.take i)) l i) (lack set l)) ?_ ?_ 0 (by omega)
 ·simpa [lack] using H
 ·show Ev _ _
  rw [Ev.iff_succ]
  simp [spec_l5Among.l0, Ev.now_iff]
 ·intro i hi ih
  show Ev _ _
  rw [Ev.iff_succ]
  have h1 : (i : Int) < l.length := by omega
  have h2 : (0 : Int) ≤ i := by omega
  have h3 : (lack set (l.take i)).length < 17592186044416 := by
   have := List.length_filter_le (fun y => !decide (y ∈ set)) (l.take i)
   have h4 : (l.take i).length ≤ i := List.length_take_le _ _
   simp only [lack];omega
  have h5 : lack set (l.take (i + 1)) = lack set (l.take i) ++ (if decide (l[i] ∈ set) then [] else [l[i]]) := by
   rw [List.take_succ_eq_append_getElem hi]
   simp only [lack, List.filter_append]
   congr 1
   by_cases c : l[i] ∈ set <;> simp [c]
  rw [h5] at ih
  simp only [spec_l5Among.l0, Ev.ite_iff, h1, h2, h3, ↓reduceIte, w64_succ i (by omega), Ev.bind_iff (l1Has_ev set _ hs), rd_lt l i hi]
  split
  ·rename_i c;simpa [c] using ih
  ·rename_i c;simpa [c] using ih

theorem lack_bl {n m s : Nat} : lack (bl n s) (bl n m) = bl n (mk n fun y => m.testBit y && !s.testBit y) := by
 refine asc_ext (asc_of_pairwise (p := none) ((bl_pairwise n m).filter _) (fun q hq => by cases hq)) (bl_asc n _) (fun x => ?_)
 simp only [lack, List.mem_filter, mem_bl, mk_bit]
 constructor
 ·rintro ⟨⟨i, h1, h2, rfl⟩, h3⟩
  refine ⟨i, h1, ?_, rfl⟩
  simp only [Bool.not_eq_true', decide_eq_false_iff_not] at h3
  have : s.testBit i = false := by
   cases hs : s.testBit i with
   | false => rfl
   | true => exact absurd ⟨i, h1, hs, rfl⟩ h3
  simp [h1, h2, this]
 ·rintro ⟨i, h1, h2, rfl⟩
  simp only [Bool.and_eq_true, decide_eq_true_eq, Bool.not_eq_true'] at h2
  refine ⟨⟨i, h1, h2.2.1, rfl⟩, ?_⟩
  simp only [Bool.not_eq_true', decide_eq_false_iff_not]
  rintro ⟨j, _, hj, e⟩
  obtain rfl : i = j := by omega
  rw [h2.2.2] at hj;exact absurd hj (by simp)

/-- The rows of a net: of each node the set of those that q tells. -/
def netW (n : Nat) (q : Nat → Nat → Bool) : List Int := (List.range n).map (fun x => Int.ofNat (mk n (q x)))

theorem netW_rd {n : Nat} {q : Nat → Nat → Bool} {i : Nat} (h : i < n) : rd (netW n q) i = (mk n (q i) : Nat) := by simp [rd, netW, h]

theorem netW_set {n : Nat} {q : Nat → Nat → Bool} {i : Nat} {p : Nat → Bool} (_ : i < n) : (netW n q).set i (Int.ofNat (mk n p)) = netW n (fun x => if x = i then p else q x) := by
 apply List.ext_getElem
 ·simp [netW]
 ·intro j h1 h2
  simp only [List.getElem_set, netW, List.getElem_map, List.getElem_range]
  by_cases e : i = j
  ·subst e;simp
  ·simp [e, show ¬ j = i from fun h => e h.symm]

theorem shl_one {j : Nat} (h : j < 62) : shl .i64 1 (j : Int) = ((2 ^ j : Nat) : Int) := by
 unfold shl
 have hb : IntKind.bits .i64 = 64 := rfl
 have h1 : (2 : Nat) ^ j < 2 ^ 62 := Nat.pow_lt_pow_right (by decide) h
 rw [Int.toNat_natCast, hb, Nat.min_eq_left (by omega), Int.one_mul, i64_wrap_id]
 ·simp
 ·exact Int.pow_nonneg (by decide)
 ·exact_mod_cast h1

theorem mk_or_pow {n : Nat} {p : Nat → Bool} {j : Nat} (h : j < n) : mk n p ||| 2 ^ j = mk n (fun y => p y || y == j) := by
 refine mask_ext (n := n) (Nat.or_lt_two_pow (mk_lt _ _) (Nat.pow_lt_pow_right (by decide) h)) (mk_lt _ _) (fun i hi => ?_)
 rw [Nat.testBit_or, mk_bit, mk_bit, Nat.testBit_two_pow]
 by_cases e : j = i
 ·subst e;simp [hi]
 ·simp [hi, e, show ¬ i = j from fun h => e h.symm]

theorem mk_lt62 {n : Nat} (p : Nat → Bool) (hn : n ≤ 8) : mk n p < 2 ^ 62 := Nat.lt_of_lt_of_le (mk_lt n p) (Nat.pow_le_pow_right (by decide) (by omega))

theorem netStep_W {n : Nat} {q : Nat → Nat → Bool} {e : S92} (hn : n ≤ 8) (he : edgeOk n e = true) :
  netStep (netW n q) e = netW n (fun x y => q x y || decide (e.f0 = (x : Int) ∧ e.f1 = (y : Int) ∨ e.f0 = (y : Int) ∧ e.f1 = (x : Int))) := by
 simp only [edgeOk, decide_eq_true_eq] at he
 obtain ⟨a, b⟩ := e
 simp only at he
 obtain ⟨i, rfl⟩ : ∃ i : Nat, a = i := ⟨a.toNat, by omega⟩
 obtain ⟨j, rfl⟩ : ∃ j : Nat, b = j := ⟨b.toNat, by omega⟩
 have hi : i < n := by omega
 have hj : j < n := by omega
 have hp : ∀ {k : Nat}, k < n → 2 ^ k < 2 ^ 62 := fun h => Nat.pow_lt_pow_right (by decide) (by omega)
 simp only [netStep, Int.toNat_natCast]
 rw [netW_rd hi, shl_one (by omega), gor _ _ (mk_lt62 _ hn) (hp hj), mk_or_pow hj]
 rw [show ((mk n fun y => q i y || y == j : Nat) : Int) = Int.ofNat (mk n fun y => q i y || y == j) from rfl, netW_set hi]
 rw [netW_rd hj, shl_one (by omega), gor _ _ (mk_lt62 _ hn) (hp hi), mk_or_pow hi]
 rw [show ∀ z : Nat, (z : Int) = Int.ofNat z from fun _ => rfl, netW_set hj]
 congr 1
 funext x y
 have hij : i ≠ j := by omega
 rw [Bool.eq_iff_iff]
 by_cases e1 : x = j
 ·subst e1
  rw [if_pos rfl, if_neg (Ne.symm hij)]
  simp only [Bool.or_eq_true, beq_iff_eq, decide_eq_true_eq, and_true, true_and]
  constructor
  ·rintro (h | h)
   ·exact .inl h
   ·right;omega
  ·rintro (h | h)
   ·exact .inl h
   ·right;omega
 ·rw [if_neg e1]
  by_cases e3 : x = i
  ·subst e3
   rw [if_pos rfl]
   simp only [Bool.or_eq_true, beq_iff_eq, decide_eq_true_eq, and_true, true_and]
   constructor
   ·rintro (h | h)
    ·exact .inl h
    ·right;omega
   ·rintro (h | h)
    ·exact .inl h
    ·right;omega
  ·rw [if_neg e3]
   simp only [Bool.or_eq_true, decide_eq_true_eq]
   constructor
   ·exact .inl
   ·rintro (h | h)
    ·exact h
    ·omega

theorem netW_fold {n : Nat} (hn : n ≤ 8) : ∀ (es : List S92) (q : Nat → Nat → Bool), (∀ e ∈ es, edgeOk n e = true) → es.foldl netStep (netW n q) = netW n (fun x y => q x y || near es x y)
 | [], q, _ => by simp [near]
 | e :: es, q, h => by
  rw [List.foldl_cons, netStep_W hn (h e (by simp)), netW_fold hn es _ (fun x hx => h x (by simp [hx]))]
  congr 1
  funext x y
  simp only [near, List.any_cons, Bool.or_assoc]

/-- The rows of the net of a graph. -/
def nets (es : List S92) (n : Nat) : List Int := (List.range n).map (fun x => Int.ofNat (nb es n x))

theorem nets_len (es : List S92) (n : Nat) : (nets es n).length = n := by simp [nets]

theorem nets_rd {es : List S92} {n i : Nat} (h : i < n) : rd (nets es n) i = (nb es n i : Nat) := by simp [rd, nets, h]

def okG (n : Int) (es : List S92) : Bool := decide (0 ≤ n ∧ n ≤ 8) && goodL n none es

theorem netOf_eq {n : Nat} {es : List S92} (h : okG n es = true) : impl_netOf.f n es = some (nets es n) := by
 have h2 := h
 simp only [okG, Bool.and_eq_true, decide_eq_true_eq] at h2
 have hn : n ≤ 8 := by omega
 have hz : List.replicate n (0 : Int) = netW n (fun _ _ => false) := by
  apply List.ext_getElem
  ·simp [netW]
  ·intro i h1 h3
   have hm : mk n (fun _ => false) = 0 := mask_ext (n := n) (mk_lt _ _) (Nat.two_pow_pos n) (fun i _ => by rw [mk_bit];simp)
   simp [netW, hm]
 show (if okG n es = true then some (es.foldl netStep (List.replicate (n : Int).toNat 0)) else none) = _
 rw [if_pos h, Int.toNat_natCast, hz, netW_fold hn es _ (goodL_all h2.2)]
 simp [netW, nets, nb]

/-- What one set has and another one lacks. -/
def mns (a b : Nat) : Nat := a ^^^ (a &&& b)

theorem mns_bit (a b i : Nat) : (mns a b).testBit i = (a.testBit i && !b.testBit i) := by
 unfold mns
 rw [Nat.testBit_xor, Nat.testBit_and]
 cases a.testBit i <;> cases b.testBit i <;> rfl

theorem mns_lt {n a : Nat} (b : Nat) (h : a < 2 ^ n) : mns a b < 2 ^ n := lt_of_bits fun i hi => by rw [mns_bit, bit_lt h hi]; rfl

theorem gandn (a b : Nat) (ha : a < 2 ^ 62) (hb : b < 2 ^ 62) : Go.bits .andNot .i64 (a : Int) (b : Int) = ((mns a b : Nat) : Int) := by
 have h1 : (BitVec.ofNat 64 a &&& ~~~ BitVec.ofNat 64 b).toNat = mns a b := by
  apply Nat.eq_of_testBit_eq
  intro i
  rw [BitVec.testBit_toNat, mns_bit, BitVec.getLsbD_and, BitVec.getLsbD_not, BitVec.getLsbD_ofNat, BitVec.getLsbD_ofNat]
  by_cases hi : i < 64
  ·simp [hi]
  ·have h62 : ∀ {c : Nat}, c < 2 ^ 62 → c.testBit i = false := fun h => bit_lt h (by omega)
   simp [hi, h62 ha]
 have h2 : mns a b < 2 ^ 62 := mns_lt b ha
 show IntKind.i64.wrap (((BitVec.ofInt 64 (a : Int) &&& ~~~ BitVec.ofInt 64 (b : Int)).toNat : Nat) : Int) = _
 rw [BitVec.ofInt_natCast, BitVec.ofInt_natCast, h1]
 exact i64_wrap_id _ (by omega) (by exact_mod_cast h2)

theorem lt62 {n m : Nat} (hn : n ≤ 8) (h : m < 2 ^ n) : m < 2 ^ 62 := Nat.lt_of_lt_of_le h (Nat.pow_le_pow_right (by decide) (by omega))

/-- Has a set just one node? -/
def isPow (L : Nat) : Bool := decide (L ≠ 0 ∧ L &&& (L - 1) = 0)

theorem isPow_spec : ∀ n, n ≤ 8 → ∀ L, L < 2 ^ n → isPow L = true → ∃ y, y < n ∧ L = 2 ^ y := by decide +kernel

theorem isPow_len : ∀ n, n ≤ 8 → ∀ L, L < 2 ^ n → isPow L = decide ((bl n L).length = 1) := by decide +kernel

theorem bl_pow : ∀ n, n ≤ 8 → ∀ y, y < n → bl n (2 ^ y) = [Int.ofNat y] := by decide +kernel

theorem bl_len_full : ∀ n, n ≤ 8 → ∀ m, m < 2 ^ n → ((bl n m).length = n ↔ m = 2 ^ n - 1) := by decide +kernel

theorem shr_nat (a x : Nat) (h : x < 62) : shr .i64 (a : Int) (x : Int) = ((a >>> x : Nat) : Int) := by
 unfold shr
 have hb : IntKind.bits .i64 = 64 := rfl
 rw [Int.toNat_natCast, hb, Nat.min_eq_left (by omega), Nat.shiftRight_eq_div_pow]
 simp

theorem shr_bit (a x : Nat) (ha : a < 2 ^ 62) (h : x < 62) : Go.bits .and .i64 (shr .i64 (a : Int) (x : Int)) 1 = if a.testBit x then 1 else 0 := by
 have h1 : a >>> x < 2 ^ 62 := Nat.lt_of_le_of_lt (Nat.shiftRight_le a x) ha
 rw [shr_nat a x h, show (1 : Int) = ((1 : Nat) : Int) from rfl, gand _ _ h1 (by decide)]
 simp only [Nat.testBit, bne_iff_ne, ne_eq]
 rw [Nat.and_comm 1, Nat.and_one_is_mod]
 have := Nat.mod_two_eq_zero_or_one (a >>> x)
 rcases this with h | h <;> simp [h]

theorem mask_all (n : Nat) (h : n ≤ 8) : wrap64 (shl .i64 1 (n : Int) - 1) = ((2 ^ n - 1 : Nat) : Int) := by
 rw [shl_one (by omega)]
 have h1 := p8 h
 have h2 : 0 < 2 ^ n := Nat.two_pow_pos n
 rw [w64 (by omega) (by omega)]
 omega

/-- The neighbors of a node that a set lacks. -/
def opM (es : List S92) (n m x : Nat) : Nat := mns (nb es n x) m

theorem opM_lt (es : List S92) (n m x : Nat) : opM es n m x < 2 ^ n := mns_lt _ (nb_lt es n x)

def fStep (es : List S92) (n m : Nat) (skew : Bool) (nx x : Nat) : Nat :=
 if (skew || m.testBit x) && isPow (opM es n m x) then nx ||| opM es n m x else nx

/-- What is coloured behind a round. -/
def onceM (es : List S92) (n m : Nat) (skew : Bool) : Nat := (List.range n).foldl (fStep es n m skew) m

theorem fold_range_succ {α : Type} (n : Nat) (f : α → Nat → α) (a : α) : (List.range (n + 1)).foldl f a = f ((List.range n).foldl f a) n := by
 rw [List.range_succ, List.foldl_append];rfl

theorem fStep_lt {es : List S92} {n m nx x : Nat} {skew : Bool} (h : nx < 2 ^ n) : fStep es n m skew nx x < 2 ^ n := by
 unfold fStep;split
 ·exact Nat.or_lt_two_pow h (opM_lt _ _ _ _)
 ·exact h

theorem fold_lt {es : List S92} {n m nx : Nat} {skew : Bool} (h : nx < 2 ^ n) : ∀ i, (List.range i).foldl (fStep es n m skew) nx < 2 ^ n
 | 0 => h
 | i + 1 => by rw [fold_range_succ];exact fStep_lt (fold_lt h i)

theorem onceM_lt {es : List S92} {n m : Nat} {skew : Bool} (h : m < 2 ^ n) : onceM es n m skew < 2 ^ n := fold_lt h n

theorem fold_le {es : List S92} {n m nx : Nat} {skew : Bool} : ∀ i, nx ≤ (List.range i).foldl (fStep es n m skew) nx
 | 0 => Nat.le_refl _
 | i + 1 => by
  rw [fold_range_succ]
  refine Nat.le_trans (fold_le (es := es) (n := n) (m := m) (skew := skew) i) ?_
  unfold fStep;split
  ·exact Nat.left_le_or
  ·exact Nat.le_refl _

theorem onceM_le (es : List S92) (n m : Nat) (skew : Bool) : m ≤ onceM es n m skew := fold_le n

theorem fold_bits {es : List S92} {n m nx : Nat} {skew : Bool} {y : Nat} (h : nx.testBit y = true) : ∀ i, ((List.range i).foldl (fStep es n m skew) nx).testBit y = true
 | 0 => h
 | i + 1 => by
  rw [fold_range_succ]
  have := fold_bits (es := es) (n := n) (m := m) (skew := skew) h i
  generalize (List.range i).foldl (fStep es n m skew) nx = acc at this ⊢
  unfold fStep;split
  ·rw [Nat.testBit_or, this];rfl
  ·exact this

/-- What is coloured when no round colours more. -/
def closM (es : List S92) (n : Nat) (skew : Bool) (m : Nat) : Nat :=
 if h : m < 2 ^ n ∧ onceM es n m skew ≠ m then closM es n skew (onceM es n m skew) else m
 termination_by 2 ^ n - m
 decreasing_by
 have := onceM_le es n m skew
 have := onceM_lt (es := es) (skew := skew) h.1
 omega

theorem closM_lt {es : List S92} {n : Nat} {skew : Bool} {m : Nat} (hm : m < 2 ^ n) : closM es n skew m < 2 ^ n := by
 obtain ⟨d, hd⟩ : ∃ d, d = 2 ^ n - m := ⟨_, rfl⟩
 induction d using Nat.strongRecOn generalizing m with
 | _ d ih =>
  unfold closM
  split
  ·rename_i h
   have h1 := onceM_le es n m skew
   have h2 := onceM_lt (es := es) (skew := skew) hm
   exact ih _ (by omega) h2 rfl
  ·exact hm

theorem l9Open_ev (es : List S92) (n m x : Nat) (hn : n ≤ 8) (hl : es.length ≤ 9223372036854775807) : Ev (fun k => spec_l9Open.f k n es (bl n m) x) (bl n (opM es n m x)) := by
 have h1 := bl_len_le n m
 unfold spec_l9Open.f
 rw [Ev.bind_iff (l5Among_ev n es (bl n m) x hn hl (by omega)), Ev.now_iff, lack_bl]
 congr 1
 refine mask_ext (n := n) (mk_lt _ _) (opM_lt es n m x) (fun i hi => ?_)
 rw [mk_bit, opM, mns_bit]
 simp [hi]

theorem l1Own_eq {l : List Int} (h : l.length < 17592186044416) : spec_l1Own.f l = some l := by simp [spec_l1Own.f, h]

theorem l1Put_bl {n m i : Nat} (hn : n ≤ 8) (hi : i < n) : spec_l1Put.f (bl n m) (i : Int) = some (bl n (m ||| 2 ^ i)) := by
 have := bl_len_le n m
 rw [spec_l1Put.f, if_pos (by omega), ins_bl hi]

theorem l9Once_ev (es : List S92) (n m : Nat) (skew : Bool) (hn : n ≤ 8) (hm : m < 2 ^ n) (hl : es.length ≤ 9223372036854775807) : Ev (fun k => spec_l9Once.f k n es (bl n m) skew) (bl n (onceM es n m skew)) := by
 have hb := bl_len_le n m
 unfold spec_l9Once.f
 rw [l1Own_eq (by omega)]
 simp only [Option.bind_some]
 have H := down n (fun i => Ev (fun k => spec_l9Once.l0 k (bl n m) skew (bl n ((List.range i).foldl (fStep es n m skew) m)) i n es) (bl n (onceM es n m skew))) ?_ ?_ 0 (by omega)
 ·simpa using H
 ·show Ev _ _
  rw [Ev.iff_succ]
  simp [spec_l9Once.l0, Ev.now_iff, onceM]
 ·intro i hi ih
  show Ev _ _
  rw [Ev.iff_succ]
  have h1 : (i : Int) < (n : Int) := by omega
  have hL := opM_lt es n m i
  rw [fold_range_succ] at ih
  generalize (List.range i).foldl (fStep es n m skew) m = acc at ih ⊢
  unfold fStep at ih
  have hlen := isPow_len n hn _ hL
  simp only [spec_l9Once.l0, Ev.ite_iff, h1, ↓reduceIte, w64_succ i (by omega)]
  rw [Ev.bind_iff (l9Open_ev es n m i hn hl)]
  simp only [Ev.ite_iff]
  by_cases c : (bl n (opM es n m i)).length = 1
  ·rw [if_pos (by omega)]
   have hp : isPow (opM es n m i) = true := by rw [hlen];simp [c]
   obtain ⟨y, hy, he⟩ := isPow_spec n hn _ hL hp
   have hr : rd (bl n (opM es n m i)) 0 = (y : Int) := by rw [he, bl_pow n hn y hy];simp [rd]
   have h0 : (0 : Int) < ((bl n (opM es n m i)).length : Int) := by omega
   simp only [h0, ↓reduceIte, hr, l1Put_bl hn hy, Option.bind_some]
   rw [hp, Bool.and_true, he] at ih
   cases skew with
   | true => simpa using ih
   | false =>
    simp only [Bool.false_eq_true, ↓reduceIte, Bool.false_or] at ih ⊢
    rw [Ev.bind_iff (l1Has_ev (bl n m) i (by omega)), Ev.ite_iff]
    by_cases hb : m.testBit i = true
    ·rw [if_pos (by simp [mem_bl_nat, hi, hb])];simpa [hb] using ih
    ·rw [if_neg (by simp [mem_bl_nat, hb])];simpa [hb] using ih
  ·rw [if_neg (by omega)]
   have hp : isPow (opM es n m i) = false := by rw [hlen];simp [c]
   rw [hp, Bool.and_false] at ih
   simpa using ih

theorem cnt_mono {p q : Nat → Bool} : ∀ n, (∀ i, i < n → p i = true → q i = true) → ((List.range n).filter p).length ≤ ((List.range n).filter q).length ∧
  (((List.range n).filter q).length ≤ ((List.range n).filter p).length → ∀ i, i < n → q i = true → p i = true)
 | 0, _ => ⟨Nat.le_refl _, fun _ i hi => by omega⟩
 | n + 1, h => by
  obtain ⟨h1, h2⟩ := cnt_mono n (fun i hi => h i (by omega))
  have h3 := h n (by omega)
  rw [filter_range_succ, filter_range_succ, List.length_append, List.length_append]
  cases hp : p n <;> cases hq : q n
  ·simp only [Bool.false_eq_true, ↓reduceIte, List.length_nil, Nat.add_zero]
   refine ⟨h1, fun hle i hi hqi => ?_⟩
   by_cases e : i = n
   ·subst e;rw [hq] at hqi;cases hqi
   ·exact h2 hle i (by omega) hqi
  ·simp only [Bool.false_eq_true, ↓reduceIte, List.length_nil, Nat.add_zero, List.length_cons]
   exact ⟨by omega, fun hle => by omega⟩
  ·rw [h3 hp] at hq;cases hq
  ·simp only [↓reduceIte, List.length_cons, List.length_nil]
   refine ⟨by omega, fun hle i hi hqi => ?_⟩
   by_cases e : i = n
   ·subst e;exact hp
   ·exact h2 (by omega) i (by omega) hqi

theorem bl_len (n m : Nat) : (bl n m).length = ((List.range n).filter (fun x => m.testBit x)).length := by simp [bl]

/-- A set that holds another one and has no more nodes is that one. -/
theorem sub_len {n a b : Nat} (ha : a < 2 ^ n) (hb : b < 2 ^ n) (h : ∀ i, i < n → a.testBit i = true → b.testBit i = true) (hl : (bl n b).length ≤ (bl n a).length) : b = a := by
 rw [bl_len, bl_len] at hl
 have h2 := (cnt_mono n h).2 hl
 exact mask_ext hb ha (fun i hi => by rw [Bool.eq_iff_iff];exact ⟨h2 i hi, h i hi⟩)

theorem onceM_len {es : List S92} {n m : Nat} {skew : Bool} (hm : m < 2 ^ n) : (bl n (onceM es n m skew)).length = (bl n m).length ↔ onceM es n m skew = m :=
 ⟨fun h => sub_len hm (onceM_lt hm) (fun _ _ hb => fold_bits hb n) (by omega), fun h => by rw [h]⟩

theorem l9All_ev (es : List S92) (n : Nat) (skew : Bool) (hn : n ≤ 8) (hl : es.length ≤ 9223372036854775807) : ∀ m, m < 2 ^ n → Ev (fun k => spec_l9All.f k n es (bl n m) skew) (bl n (closM es n skew m)) := by
 intro m hm
 have hb := bl_len_le n m
 unfold spec_l9All.f
 rw [l1Own_eq (by omega)]
 simp only [Option.bind_some]
 clear hb
 obtain ⟨d, hd⟩ : ∃ d, d = 2 ^ n - m := ⟨_, rfl⟩
 induction d using Nat.strongRecOn generalizing m with
 | _ d ih =>
  rw [Ev.iff_succ]
  simp only [spec_l9All.l0]
  rw [Ev.bind_iff (l9Once_ev es n m skew hn hm hl), Ev.ite_iff]
  unfold closM
  by_cases c : onceM es n m skew = m
  ·rw [if_pos (by rw [c]), dif_neg (by simp [c]), Ev.now_iff]
  ·have h1 := onceM_le es n m skew
   have h2 := onceM_lt (es := es) (skew := skew) hm
   have h3 : ¬ (bl n (onceM es n m skew)).length = (bl n m).length := fun h => c ((onceM_len (es := es) (skew := skew) hm).1 h)
   rw [if_neg (by omega), dif_pos ⟨hm, c⟩]
   exact ih _ (by omega) _ h2 rfl

theorem l9Forces_ev (es : List S92) (n m : Nat) (hn : n ≤ 8) (hm : m < 2 ^ n) (hl : es.length ≤ 9223372036854775807) : Ev (fun k => spec_l9Forces.f k n es (bl n m)) (decide (closM es n false m = 2 ^ n - 1)) := by
 unfold spec_l9Forces.f
 rw [Ev.bind_iff (l9All_ev es n false hn hl m hm), Ev.now_iff]
 have := bl_len_full n hn _ (closM_lt (es := es) (skew := false) hm)
 rw [Bool.eq_iff_iff]
 simp only [beq_iff_eq, decide_eq_true_eq]
 omega

theorem u64_wrap_id (m : Nat) (h : m < 2 ^ 62) : IntKind.u64.wrap (m : Int) = (m : Int) := by rw [IntKind.wrap_u64]; omega

theorem ones_small : ∀ n : Nat, n ≤ 8 → ∀ m : Nat, m < 2 ^ n → bits_OnesCount.f (m : Int) = some (((bl n m).length : Nat) : Int) := by decide +kernel

theorem ones_bl {n m : Nat} (hn : n ≤ 8) (hm : m < 2 ^ n) : bits_OnesCount.f (IntKind.u64.wrap (m : Int)) = some (((bl n m).length : Nat) : Int) := by
 rw [u64_wrap_id m (lt62 hn hm), ones_small n hn m hm]

theorem set_fill {α : Type} (l : List α) (z : α) (i : Nat) (h : i < l.length) : (l.take i ++ List.replicate (l.length - i) z).set i l[i] = l.take (i + 1) ++ List.replicate (l.length - (i + 1)) z := by
 rw [List.take_succ_eq_append_getElem h, show l.length - i = (l.length - (i + 1)) + 1 by omega, List.replicate_succ]
 have h1 : (l.take i).length = i := by rw [List.length_take];omega
 rw [List.set_append_right _ _ (by omega), h1, Nat.sub_self, List.set_cons_zero, List.append_assoc]
 rfl

theorem toIntS_ev (l : List Int) (hl : l.length ≤ 35184372088832) : Ev (fun k => laws_toIntS.f k l) l := by
 unfold laws_toIntS.f
 rw [Ev.ite_iff, if_pos (by omega), Ev.ite_iff, if_pos (by omega), Int.toNat_natCast]
 have H := down l.length (fun i => Ev (fun k => laws_toIntS.l0 k l (l.take i ++ List.replicate (l.length - i) 0) i) l) ?_ ?_ 0 (by omega)
 ·simpa using H
 ·show Ev _ _
  rw [Ev.iff_succ]
  simp [laws_toIntS.l0, Ev.now_iff]
 ·intro i hi ih
  show Ev _ _
  rw [Ev.iff_succ]
  have h1 : (i : Int) < l.length := by omega
  have h2 : (0 : Int) ≤ i := by omega
  have h3 : (i : Int) < ((l.take i ++ List.replicate (l.length - i) (0 : Int)).length : Int) := by
   rw [List.length_append, List.length_take, List.length_replicate];omega
  simp only [laws_toIntS.l0, Ev.ite_iff, h1, h2, h3, ↓reduceIte, w64_succ i (by omega), rd_lt l i hi, Int.toNat_natCast]
  rw [set_fill l 0 i hi]
  exact ih

theorem toIntA2_eq (a b : Int) : laws_toIntA2.f a b = some (a, b) := rfl

end Go.Proofs.YthbjajppdomhhaaDoor.QChainsOf
