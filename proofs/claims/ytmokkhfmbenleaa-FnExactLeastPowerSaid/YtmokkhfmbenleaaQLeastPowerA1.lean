import Derived.Test.YtmokkhfmbenleaaQLeastPower0
import Derived.Test.YtmokkhfmbenleaaQLeastPower10
import Derived.Test.YtmokkhfmbenleaaQLeastPower11
import Derived.Test.YtmokkhfmbenleaaQLeastPower3
import Derived.Test.YtmokkhfmbenleaaQLeastPower4
import Derived.Test.YtmokkhfmbenleaaQLeastPower6
import Derived.Test.YtmokkhfmbenleaaQLeastPower7
import Derived.Test.YtmokkhfmbenleaaQLeastPower9
import Derived.Test.YtmokkhfmbenleaaQLeastPowerA0
namespace Go.Proofs.Ytmokkhfmbenleaa.QLeastPower
open Go.RowKit Go.Proofs.YtmokkhfmbenleaaW.PrintWords Go.Proofs.YtmokkhfmbenleaaW.PrintLast Go.Proofs.YtmokkhfmbenleaaW.PrintMore
attribute [local go_sem] max2_int min2_int max_two min_two max_three min_three max_four min_four   -- for this text's walks alone
set_option linter.unusedVariables false
set_option linter.unusedSimpArgs false
theorem netOf_eq {n : Nat} {es : List S119} (h : okG n es = true) : impl_netOf.f n es = some (nets es n) := by
  have h2 := h
  simp only [okG, Bool.and_eq_true, decide_eq_true_eq] at h2
  have hn : n ≤ 8 := by omega
  have hz : List.replicate n (0 : Int) = netW n (fun _ _ => false) := by
    apply List.ext_getElem
    · simp [netW]
    · intro i h1 h3
      have hm : mk n (fun _ => false) = 0 := mask_ext (n := n) (mk_lt _ _) (Nat.two_pow_pos n) (fun i _ => by rw [mk_bit]; simp)
      simp [netW, hm]
  show (if okG n es = true then some (es.foldl netStep (List.replicate (n : Int).toNat 0)) else none) = _
  rw [if_pos h, Int.toNat_natCast, hz, netW_fold hn es _ (goodL_all h2.2)]
  simp [netW, nets, nb]

/-- What one set has and another one lacks. -/
def mns (a b : Nat) : Nat := a ^^^ (a &&& b)

theorem mns_bit (a b i : Nat) : (mns a b).testBit i = (a.testBit i && !b.testBit i) := by
  unfold mns
  rw [Nat.testBit_xor, Nat.testBit_and]
  cases a.testBit i <;> cases b.testBit i <;> rfl

theorem mns_lt {n a : Nat} (b : Nat) (h : a < 2 ^ n) : mns a b < 2 ^ n := lt_of_bits fun i hi => by rw [mns_bit, bit_lt h hi]; rfl

theorem gandn (a b : Nat) (ha : a < 2 ^ 62) (hb : b < 2 ^ 62) : Go.bits .andNot .i64 (a : Int) (b : Int) = ((mns a b : Nat) : Int) := by
  have h1 : (BitVec.ofNat 64 a &&& ~~~ BitVec.ofNat 64 b).toNat = mns a b := by
    apply Nat.eq_of_testBit_eq
    intro i
    rw [BitVec.testBit_toNat, mns_bit, BitVec.getLsbD_and, BitVec.getLsbD_not, BitVec.getLsbD_ofNat, BitVec.getLsbD_ofNat]
    by_cases hi : i < 64
    · simp [hi]
    · have h62 : ∀ {c : Nat}, c < 2 ^ 62 → c.testBit i = false := fun h => bit_lt h (by omega)
      simp [hi, h62 ha]
  have h2 : mns a b < 2 ^ 62 := mns_lt b ha
  show IntKind.i64.wrap (((BitVec.ofInt 64 (a : Int) &&& ~~~ BitVec.ofInt 64 (b : Int)).toNat : Nat) : Int) = _
  rw [BitVec.ofInt_natCast, BitVec.ofInt_natCast, h1]
  exact i64_wrap_id _ (by omega) (by exact_mod_cast h2)

theorem lt62 {n m : Nat} (hn : n ≤ 8) (h : m < 2 ^ n) : m < 2 ^ 62 := Nat.lt_of_lt_of_le h (Nat.pow_le_pow_right (by decide) (by omega))

/-- Has a set just one node? -/
def isPow (L : Nat) : Bool := decide (L ≠ 0 ∧ L &&& (L - 1) = 0)

theorem isPow_spec : ∀ n, n ≤ 8 → ∀ L, L < 2 ^ n → isPow L = true → ∃ y, y < n ∧ L = 2 ^ y := by decide +kernel

theorem isPow_len : ∀ n, n ≤ 8 → ∀ L, L < 2 ^ n → isPow L = decide ((bl n L).length = 1) := by decide +kernel

theorem bl_pow : ∀ n, n ≤ 8 → ∀ y, y < n → bl n (2 ^ y) = [Int.ofNat y] := by decide +kernel

theorem bl_len_full : ∀ n, n ≤ 8 → ∀ m, m < 2 ^ n → ((bl n m).length = n ↔ m = 2 ^ n - 1) := by decide +kernel

theorem shr_nat (a x : Nat) (h : x < 62) : shr .i64 (a : Int) (x : Int) = ((a >>> x : Nat) : Int) := by
  unfold shr
  have hb : IntKind.bits .i64 = 64 := rfl
  rw [Int.toNat_natCast, hb, Nat.min_eq_left (by omega), Nat.shiftRight_eq_div_pow]
  simp

theorem shr_bit (a x : Nat) (ha : a < 2 ^ 62) (h : x < 62) : Go.bits .and .i64 (shr .i64 (a : Int) (x : Int)) 1 = if a.testBit x then 1 else 0 := by
  have h1 : a >>> x < 2 ^ 62 := Nat.lt_of_le_of_lt (Nat.shiftRight_le a x) ha
  rw [shr_nat a x h, show (1 : Int) = ((1 : Nat) : Int) from rfl, gand _ _ h1 (by decide)]
  simp only [Nat.testBit, bne_iff_ne, ne_eq]
  rw [Nat.and_comm 1, Nat.and_one_is_mod]
  have := Nat.mod_two_eq_zero_or_one (a >>> x)
  rcases this with h | h <;> simp [h]

theorem mask_all (n : Nat) (h : n ≤ 8) : wrap64 (shl .i64 1 (n : Int) - 1) = ((2 ^ n - 1 : Nat) : Int) := by
  rw [shl_one (by omega)]
  have h1 := p8 h
  have h2 : 0 < 2 ^ n := Nat.two_pow_pos n
  rw [w64 (by omega) (by omega)]
  omega

/-- The neighbors of a node that a set lacks. -/
def opM (es : List S119) (n m x : Nat) : Nat := mns (nb es n x) m

theorem opM_lt (es : List S119) (n m x : Nat) : opM es n m x < 2 ^ n := mns_lt _ (nb_lt es n x)

def fStep (es : List S119) (n m : Nat) (skew : Bool) (nx x : Nat) : Nat :=
  if (skew || m.testBit x) && isPow (opM es n m x) then nx ||| opM es n m x else nx

/-- What is coloured behind a round. -/
def onceM (es : List S119) (n m : Nat) (skew : Bool) : Nat := (List.range n).foldl (fStep es n m skew) m

theorem fold_range_succ {α : Type} (n : Nat) (f : α → Nat → α) (a : α) : (List.range (n + 1)).foldl f a = f ((List.range n).foldl f a) n := by
  rw [List.range_succ, List.foldl_append]; rfl

theorem fStep_lt {es : List S119} {n m nx x : Nat} {skew : Bool} (h : nx < 2 ^ n) : fStep es n m skew nx x < 2 ^ n := by
  unfold fStep; split
  · exact Nat.or_lt_two_pow h (opM_lt _ _ _ _)
  · exact h

theorem fold_lt {es : List S119} {n m nx : Nat} {skew : Bool} (h : nx < 2 ^ n) : ∀ i, (List.range i).foldl (fStep es n m skew) nx < 2 ^ n
  | 0 => h
  | i + 1 => by rw [fold_range_succ]; exact fStep_lt (fold_lt h i)

theorem onceM_lt {es : List S119} {n m : Nat} {skew : Bool} (h : m < 2 ^ n) : onceM es n m skew < 2 ^ n := fold_lt h n

theorem fold_le {es : List S119} {n m nx : Nat} {skew : Bool} : ∀ i, nx ≤ (List.range i).foldl (fStep es n m skew) nx
  | 0 => Nat.le_refl _
  | i + 1 => by
    rw [fold_range_succ]
    refine Nat.le_trans (fold_le (es := es) (n := n) (m := m) (skew := skew) i) ?_
    unfold fStep; split
    · exact Nat.left_le_or
    · exact Nat.le_refl _

theorem onceM_le (es : List S119) (n m : Nat) (skew : Bool) : m ≤ onceM es n m skew := fold_le n

theorem fold_bits {es : List S119} {n m nx : Nat} {skew : Bool} {y : Nat} (h : nx.testBit y = true) : ∀ i, ((List.range i).foldl (fStep es n m skew) nx).testBit y = true
  | 0 => h
  | i + 1 => by
    rw [fold_range_succ]
    have := fold_bits (es := es) (n := n) (m := m) (skew := skew) h i
    generalize (List.range i).foldl (fStep es n m skew) nx = acc at this ⊢
    unfold fStep; split
    · rw [Nat.testBit_or, this]; rfl
    · exact this

theorem forced_ev (es : List S119) (n m : Nat) (skew : Bool) (hn : n ≤ 8) (hm : m < 2 ^ n) : Ev (fun k => impl_net_forced.f k (nets es n) m skew) ((onceM es n m skew : Nat) : Int) := by
  have H := down n (fun i => Ev (fun k => impl_net_forced.l0 k m skew (((List.range i).foldl (fStep es n m skew) m : Nat) : Int) (nets es n) n i) ((onceM es n m skew : Nat) : Int)) ?_ ?_ 0 (by omega)
  · simpa [impl_net_forced.f, nets_len] using H
  · show Ev _ _
    rw [Ev.iff_succ]
    simp [impl_net_forced.l0, Ev.now_iff, onceM]
  · intro i hi ih
    show Ev _ _
    rw [Ev.iff_succ]
    have h1 : (i : Int) < (n : Int) := by omega
    have h2 : (0 : Int) ≤ i := by omega
    have h3 : (i : Int) < ((nets es n).length : Int) := by rw [nets_len]; omega
    have hL := opM_lt es n m i
    have hL8 := p8 hn
    have e1 : Go.bits .andNot .i64 (rd (nets es n) i) m = ((opM es n m i : Nat) : Int) := by
      rw [nets_rd hi, gandn _ _ (lt62 hn (nb_lt _ _ _)) (lt62 hn hm)]; rfl
    have hacc := fold_lt (es := es) (m := m) (skew := skew) hm i
    have e2 : ∀ acc : Nat, acc < 2 ^ n → Go.bits .or .i64 (acc : Int) ((opM es n m i : Nat) : Int) = ((acc ||| opM es n m i : Nat) : Int) := fun acc ha => gor _ _ (lt62 hn ha) (lt62 hn hL)
    rw [fold_range_succ] at ih
    generalize (List.range i).foldl (fStep es n m skew) m = acc at hacc ih ⊢
    unfold fStep at ih
    have e3 := shr_bit m i (lt62 hn hm) (by omega)
    have e4 : ¬ (opM es n m i : Int) = 0 → Go.bits .and .i64 ((opM es n m i : Nat) : Int) (wrap64 (((opM es n m i : Nat) : Int) - 1)) = ((opM es n m i &&& (opM es n m i - 1) : Nat) : Int) := by
      intro h0
      rw [w64 (by omega) (by omega), show ((opM es n m i : Nat) : Int) - 1 = ((opM es n m i - 1 : Nat) : Int) by omega]
      exact gand _ _ (lt62 hn hL) (by have := lt62 hn hL; omega)
    simp only [impl_net_forced.l0, Ev.ite_iff, h1, h2, h3, ↓reduceIte, w64_succ i (by omega), e1, e3]
    by_cases c0 : opM es n m i = 0
    · have hp : isPow (opM es n m i) = false := by simp [isPow, c0]
      rw [hp, Bool.and_false] at ih
      simp only [Bool.false_eq_true, ↓reduceIte] at ih
      simp only [c0, Int.natCast_zero, ↓reduceIte, ite_self]
      exact ih
    · have c0' : ¬ (opM es n m i : Int) = 0 := by omega
      simp only [c0', ↓reduceIte, e4 c0', e2 acc hacc]
      by_cases c1 : opM es n m i &&& (opM es n m i - 1) = 0
      · have hp : isPow (opM es n m i) = true := by simp [isPow, c0, c1]
        rw [hp, Bool.and_true] at ih
        simp only [c1, Int.natCast_zero, ↓reduceIte]
        cases skew <;> cases hb : m.testBit i <;> simp [hb] at ih ⊢ <;> exact ih
      · have c1' : ¬ ((opM es n m i &&& (opM es n m i - 1) : Nat) : Int) = 0 := by omega
        have hp : isPow (opM es n m i) = false := by simp [isPow, c1]
        rw [hp, Bool.and_false] at ih
        simp only [Bool.false_eq_true, ↓reduceIte] at ih
        simp only [c1', ↓reduceIte, ite_self]
        exact ih

/-- What is coloured when no round colours more. -/
def closM (es : List S119) (n : Nat) (skew : Bool) (m : Nat) : Nat :=
  if h : m < 2 ^ n ∧ onceM es n m skew ≠ m then closM es n skew (onceM es n m skew) else m
  termination_by 2 ^ n - m
  decreasing_by
  have := onceM_le es n m skew
  have := onceM_lt (es := es) (skew := skew) h.1
  omega

theorem closM_lt {es : List S119} {n : Nat} {skew : Bool} {m : Nat} (hm : m < 2 ^ n) : closM es n skew m < 2 ^ n := by
  obtain ⟨d, hd⟩ : ∃ d, d = 2 ^ n - m := ⟨_, rfl⟩
  induction d using Nat.strongRecOn generalizing m with
  | _ d ih =>
    unfold closM
    split
    · rename_i h
      have h1 := onceM_le es n m skew
      have h2 := onceM_lt (es := es) (skew := skew) hm
      exact ih _ (by omega) h2 rfl
    · exact hm

theorem forceAll_ev (es : List S119) (n : Nat) (skew : Bool) (hn : n ≤ 8) : ∀ m : Nat, m < 2 ^ n → Ev (fun k => impl_net_forceAll.f k (nets es n) m skew) ((closM es n skew m : Nat) : Int) := by
  intro m
  obtain ⟨d, hd⟩ : ∃ d, d = 2 ^ n - m := ⟨_, rfl⟩
  induction d using Nat.strongRecOn generalizing m with
  | _ d ih =>
    intro hm
    show Ev (fun k => impl_net_forceAll.l0 k m skew (nets es n)) _
    rw [Ev.iff_succ]
    simp only [impl_net_forceAll.l0]
    rw [Ev.bind_iff (forced_ev es n m skew hn hm), Ev.ite_iff]
    unfold closM
    by_cases c : onceM es n m skew = m
    · rw [if_pos (by omega), dif_neg (by simp [c]), Ev.now_iff]
    · have h1 := onceM_le es n m skew
      have h2 := onceM_lt (es := es) (skew := skew) hm
      rw [if_neg (by omega), dif_pos ⟨hm, c⟩]
      exact ih _ (by omega) _ rfl h2

theorem l9Open_ev (es : List S119) (n m x : Nat) (hn : n ≤ 8) (hl : es.length ≤ 9223372036854775807) : Ev (fun k => spec_l9Open.f k n es (bl n m) x) (bl n (opM es n m x)) := by
  have h1 := bl_len_le n m
  unfold spec_l9Open.f
  rw [Ev.bind_iff (l5Among_ev n es (bl n m) x hn hl (by omega)), Ev.now_iff, lack_bl]
  congr 1
  refine mask_ext (n := n) (mk_lt _ _) (opM_lt es n m x) (fun i hi => ?_)
  rw [mk_bit, opM, mns_bit]
  simp [hi]

theorem l1Own_eq {l : List Int} (h : l.length < 17592186044416) : spec_l1Own.f l = some l := by simp [spec_l1Own.f, h]

theorem l1Put_bl {n m i : Nat} (hn : n ≤ 8) (hi : i < n) : spec_l1Put.f (bl n m) (i : Int) = some (bl n (m ||| 2 ^ i)) := by
  have := bl_len_le n m
  rw [spec_l1Put.f, if_pos (by omega), ins_bl hi]

theorem l9Once_ev (es : List S119) (n m : Nat) (skew : Bool) (hn : n ≤ 8) (hm : m < 2 ^ n) (hl : es.length ≤ 9223372036854775807) : Ev (fun k => spec_l9Once.f k n es (bl n m) skew) (bl n (onceM es n m skew)) := by
  have hb := bl_len_le n m
  unfold spec_l9Once.f
  rw [l1Own_eq (by omega)]
  simp only [Option.bind_some]
  have H := down n (fun i => Ev (fun k => spec_l9Once.l0 k (bl n m) skew (bl n ((List.range i).foldl (fStep es n m skew) m)) i n es) (bl n (onceM es n m skew))) ?_ ?_ 0 (by omega)
  · simpa using H
  · show Ev _ _
    rw [Ev.iff_succ]
    simp [spec_l9Once.l0, Ev.now_iff, onceM]
  · intro i hi ih
    show Ev _ _
    rw [Ev.iff_succ]
    have h1 : (i : Int) < (n : Int) := by omega
    have hL := opM_lt es n m i
    rw [fold_range_succ] at ih
    generalize (List.range i).foldl (fStep es n m skew) m = acc at ih ⊢
    unfold fStep at ih
    have hlen := isPow_len n hn _ hL
    simp only [spec_l9Once.l0, Ev.ite_iff, h1, ↓reduceIte, w64_succ i (by omega)]
    rw [Ev.bind_iff (l9Open_ev es n m i hn hl)]
    simp only [Ev.ite_iff]
    by_cases c : (bl n (opM es n m i)).length = 1
    · rw [if_pos (by omega)]
      have hp : isPow (opM es n m i) = true := by rw [hlen]; simp [c]
      obtain ⟨y, hy, he⟩ := isPow_spec n hn _ hL hp
      have hr : rd (bl n (opM es n m i)) 0 = (y : Int) := by rw [he, bl_pow n hn y hy]; simp [rd]
      have h0 : (0 : Int) < ((bl n (opM es n m i)).length : Int) := by omega
      simp only [h0, ↓reduceIte, hr, l1Put_bl hn hy, Option.bind_some]
      rw [hp, Bool.and_true, he] at ih
      cases skew with
      | true => simpa using ih
      | false =>
        simp only [Bool.false_eq_true, ↓reduceIte, Bool.false_or] at ih ⊢
        rw [Ev.bind_iff (l1Has_ev (bl n m) i (by omega)), Ev.ite_iff]
        by_cases hb : m.testBit i = true
        · rw [if_pos (by simp [mem_bl_nat, hi, hb])]; simpa [hb] using ih
        · rw [if_neg (by simp [mem_bl_nat, hb])]; simpa [hb] using ih
    · rw [if_neg (by omega)]
      have hp : isPow (opM es n m i) = false := by rw [hlen]; simp [c]
      rw [hp, Bool.and_false] at ih
      simpa using ih

theorem cnt_mono {p q : Nat → Bool} : ∀ n, (∀ i, i < n → p i = true → q i = true) → ((List.range n).filter p).length ≤ ((List.range n).filter q).length ∧
    (((List.range n).filter q).length ≤ ((List.range n).filter p).length → ∀ i, i < n → q i = true → p i = true)
  | 0, _ => ⟨Nat.le_refl _, fun _ i hi => by omega⟩
  | n + 1, h => by
    obtain ⟨h1, h2⟩ := cnt_mono n (fun i hi => h i (by omega))
    have h3 := h n (by omega)
    rw [filter_range_succ, filter_range_succ, List.length_append, List.length_append]
    cases hp : p n <;> cases hq : q n
    · simp only [Bool.false_eq_true, ↓reduceIte, List.length_nil, Nat.add_zero]
      refine ⟨h1, fun hle i hi hqi => ?_⟩
      by_cases e : i = n
      · subst e; rw [hq] at hqi; cases hqi
      · exact h2 hle i (by omega) hqi
    · simp only [Bool.false_eq_true, ↓reduceIte, List.length_nil, Nat.add_zero, List.length_cons]
      exact ⟨by omega, fun hle => by omega⟩
    · rw [h3 hp] at hq; cases hq
    · simp only [↓reduceIte, List.length_cons, List.length_nil]
      refine ⟨by omega, fun hle i hi hqi => ?_⟩
      by_cases e : i = n
      · subst e; exact hp
      · exact h2 (by omega) i (by omega) hqi

theorem bl_len (n m : Nat) : (bl n m).length = ((List.range n).filter (fun x => m.testBit x)).length := by simp [bl]

/-- A set that holds another one and has no more nodes is that one. -/
theorem sub_len {n a b : Nat} (ha : a < 2 ^ n) (hb : b < 2 ^ n) (h : ∀ i, i < n → a.testBit i = true → b.testBit i = true) (hl : (bl n b).length ≤ (bl n a).length) : b = a := by
  rw [bl_len, bl_len] at hl
  have h2 := (cnt_mono n h).2 hl
  exact mask_ext hb ha (fun i hi => by rw [Bool.eq_iff_iff]; exact ⟨h2 i hi, h i hi⟩)

theorem onceM_len {es : List S119} {n m : Nat} {skew : Bool} (hm : m < 2 ^ n) : (bl n (onceM es n m skew)).length = (bl n m).length ↔ onceM es n m skew = m :=
  ⟨fun h => sub_len hm (onceM_lt hm) (fun _ _ hb => fold_bits hb n) (by omega), fun h => by rw [h]⟩

theorem l9All_ev (es : List S119) (n : Nat) (skew : Bool) (hn : n ≤ 8) (hl : es.length ≤ 9223372036854775807) : ∀ m, m < 2 ^ n → Ev (fun k => spec_l9All.f k n es (bl n m) skew) (bl n (closM es n skew m)) := by
  intro m hm
  have hb := bl_len_le n m
  unfold spec_l9All.f
  rw [l1Own_eq (by omega)]
  simp only [Option.bind_some]
  clear hb
  obtain ⟨d, hd⟩ : ∃ d, d = 2 ^ n - m := ⟨_, rfl⟩
  induction d using Nat.strongRecOn generalizing m with
  | _ d ih =>
    rw [Ev.iff_succ]
    simp only [spec_l9All.l0]
    rw [Ev.bind_iff (l9Once_ev es n m skew hn hm hl), Ev.ite_iff]
    unfold closM
    by_cases c : onceM es n m skew = m
    · rw [if_pos (by rw [c]), dif_neg (by simp [c]), Ev.now_iff]
    · have h1 := onceM_le es n m skew
      have h2 := onceM_lt (es := es) (skew := skew) hm
      have h3 : ¬ (bl n (onceM es n m skew)).length = (bl n m).length := fun h => c ((onceM_len (es := es) (skew := skew) hm).1 h)
      rw [if_neg (by omega), dif_pos ⟨hm, c⟩]
      exact ih _ (by omega) _ h2 rfl

/-- A set and its neighbors. -/
def aStep (es : List S119) (n m : Nat) (acc x : Nat) : Nat := if m.testBit x then acc ||| nb es n x else acc

def aroM (es : List S119) (n m : Nat) : Nat := (List.range n).foldl (aStep es n m) m

theorem aStep_lt {es : List S119} {n m acc x : Nat} (h : acc < 2 ^ n) : aStep es n m acc x < 2 ^ n := by
  unfold aStep; split
  · exact Nat.or_lt_two_pow h (nb_lt _ _ _)
  · exact h

theorem aFold_lt {es : List S119} {n m acc : Nat} (h : acc < 2 ^ n) : ∀ i, (List.range i).foldl (aStep es n m) acc < 2 ^ n
  | 0 => h
  | i + 1 => by rw [fold_range_succ]; exact aStep_lt (aFold_lt h i)

theorem aroM_lt {es : List S119} {n m : Nat} (h : m < 2 ^ n) : aroM es n m < 2 ^ n := aFold_lt h n

theorem aFold_bit (es : List S119) (n m acc y : Nat) : ∀ i, ((List.range i).foldl (aStep es n m) acc).testBit y = true ↔ acc.testBit y = true ∨ ∃ x, x < i ∧ m.testBit x = true ∧ (nb es n x).testBit y = true
  | 0 => by simp
  | i + 1 => by
    rw [fold_range_succ]
    have ih := aFold_bit es n m acc y i
    generalize (List.range i).foldl (aStep es n m) acc = b at ih ⊢
    unfold aStep
    have key : (∃ x, x < i + 1 ∧ m.testBit x = true ∧ (nb es n x).testBit y = true) ↔ (∃ x, x < i ∧ m.testBit x = true ∧ (nb es n x).testBit y = true) ∨ (m.testBit i = true ∧ (nb es n i).testBit y = true) := by
      constructor
      · rintro ⟨x, h1, h2⟩
        by_cases e : x = i
        · subst e; exact .inr h2
        · exact .inl ⟨x, by omega, h2⟩
      · rintro (⟨x, h1, h2⟩ | h2)
        · exact ⟨x, by omega, h2⟩
        · exact ⟨i, by omega, h2⟩
    rw [key]
    by_cases c : m.testBit i = true
    · rw [if_pos c, Nat.testBit_or, Bool.or_eq_true, ih]; simp only [c, true_and, or_assoc]
    · rw [if_neg c, ih]; simp only [c, false_and, or_false]; simp

theorem aroM_bit (es : List S119) (n m y : Nat) : (aroM es n m).testBit y = true ↔ m.testBit y = true ∨ ∃ x, x < n ∧ m.testBit x = true ∧ (nb es n x).testBit y = true := aFold_bit es n m m y n

theorem around_ev (es : List S119) (n m : Nat) (hn : n ≤ 8) (hm : m < 2 ^ n) : Ev (fun k => impl_net_around.f k (nets es n) m) ((aroM es n m : Nat) : Int) := by
  have H := down n (fun i => Ev (fun k => impl_net_around.l0 k m (((List.range i).foldl (aStep es n m) m : Nat) : Int) (nets es n) n i) ((aroM es n m : Nat) : Int)) ?_ ?_ 0 (by omega)
  · simpa [impl_net_around.f, nets_len] using H
  · show Ev _ _
    rw [Ev.iff_succ]
    simp [impl_net_around.l0, Ev.now_iff, aroM]
  · intro i hi ih
    show Ev _ _
    rw [Ev.iff_succ]
    have h1 : (i : Int) < (n : Int) := by omega
    have h2 : (0 : Int) ≤ i := by omega
    have h3 : (i : Int) < ((nets es n).length : Int) := by rw [nets_len]; omega
    have hacc := aFold_lt (es := es) (m := m) hm i
    have hb := nb_lt es n i
    have e2 : ∀ acc : Nat, acc < 2 ^ n → Go.bits .or .i64 (acc : Int) ((nb es n i : Nat) : Int) = ((acc ||| nb es n i : Nat) : Int) := fun acc ha => gor _ _ (lt62 hn ha) (lt62 hn hb)
    rw [fold_range_succ] at ih
    generalize (List.range i).foldl (aStep es n m) m = acc at hacc ih ⊢
    unfold aStep at ih
    have e3 := shr_bit m i (lt62 hn hm) (by omega)
    simp only [impl_net_around.l0, Ev.ite_iff, h1, h2, h3, ↓reduceIte, w64_succ i (by omega), nets_rd hi, e3, e2 acc hacc]
    cases c : m.testBit i
    · rw [c] at ih; simpa using ih
    · rw [c] at ih; simpa using ih

theorem rd_bl {n m j : Nat} (h : j < (bl n m).length) : ∃ y, y < n ∧ m.testBit y = true ∧ (bl n m)[j] = (y : Int) := by
  obtain ⟨y, h1, h2, h3⟩ := mem_bl.1 (List.getElem_mem h)
  exact ⟨y, h1, h2, h3⟩

theorem l2Ball_ev (n : Nat) (es : List S119) (x : Nat) (hn : n ≤ 8) (hx : x < n) (hl : es.length ≤ 9223372036854775807) : Ev (fun k => spec_l2Ball.f k n es x) (bl n (nb es n x ||| 2 ^ x)) := by
  unfold spec_l2Ball.f
  rw [Ev.bind_iff (l2Neighbors_ev n es x hn hl), l1Put_bl hn hx]
  simp only [Option.bind_some, Ev.now_iff]

def powL (es : List S119) (n : Nat) : List Int → Nat → Nat
  | [], acc => acc
  | x :: s, acc => powL es n s (acc ||| (nb es n x.toNat ||| 2 ^ x.toNat))

theorem powL_lt (es : List S119) (n : Nat) : ∀ (l : List Int) (acc : Nat), (∀ x ∈ l, 0 ≤ x ∧ x < n) → acc < 2 ^ n → powL es n l acc < 2 ^ n
  | [], _, _, h => h
  | x :: s, acc, hl, h => by
    have hx := hl x (by simp)
    exact powL_lt es n s _ (fun y hy => hl y (by simp [hy])) (Nat.or_lt_two_pow h (Nat.or_lt_two_pow (nb_lt _ _ _) (Nat.pow_lt_pow_right (by decide) (by omega))))

theorem powL_bit (es : List S119) (n y : Nat) : ∀ (l : List Int) (acc : Nat), (powL es n l acc).testBit y = true ↔ acc.testBit y = true ∨ ∃ x ∈ l, (nb es n x.toNat).testBit y = true ∨ x.toNat = y
  | [], acc => by simp [powL]
  | x :: s, acc => by
    rw [powL, powL_bit es n y s, Nat.testBit_or, Nat.testBit_or, Nat.testBit_two_pow]
    simp only [Bool.or_eq_true, decide_eq_true_eq, List.mem_cons, exists_eq_or_imp, or_assoc]

theorem powL_aro {es : List S119} {n m : Nat} (hm : m < 2 ^ n) : powL es n (bl n m) 0 = aroM es n m := by
  refine mask_ext (n := n) (powL_lt es n _ _ (fun x hx => by obtain ⟨i, h1, _, rfl⟩ := mem_bl.1 hx; omega) (Nat.two_pow_pos n)) (aroM_lt hm) (fun y hy => ?_)
  rw [Bool.eq_iff_iff, powL_bit, aroM_bit]
  simp only [Nat.zero_testBit, Bool.false_eq_true, false_or]
  constructor
  · rintro ⟨x, hx, h⟩
    obtain ⟨i, h1, h2, rfl⟩ := mem_bl.1 hx
    rw [Int.toNat_natCast] at h
    rcases h with h | h
    · exact .inr ⟨i, h1, h2, h⟩
    · subst h; exact .inl h2
  · rintro (h | ⟨x, h1, h2, h3⟩)
    · exact ⟨(y : Int), mem_bl_nat.2 ⟨hy, h⟩, .inr (by simp)⟩
    · exact ⟨(x : Int), mem_bl_nat.2 ⟨h1, h2⟩, .inl (by simpa using h3)⟩

end Go.Proofs.Ytmokkhfmbenleaa.QLeastPower
