import Derived.Test.YtmokkhfmbenleaaQSpreading0
import Derived.Test.YtmokkhfmbenleaaQSpreading1
import Derived.Test.YtmokkhfmbenleaaQSpreading2
import Derived.Test.YtmokkhfmbenleaaQSpreading7
import Derived.Test.YtmokkhfmbenleaaQSpreading8
import Derived.Test.YtmokkhfmbenleaaQSpreadingA0
namespace Go.Proofs.Ytmokkhfmbenleaa.QSpreading
open Go.RowKit Go.Proofs.YtmokkhfmbenleaaW.PrintWords Go.Proofs.YtmokkhfmbenleaaW.PrintLast Go.Proofs.YtmokkhfmbenleaaW.PrintMore
attribute [local go_sem] max2_int min2_int max_two min_two max_three min_three max_four min_four   -- for this text's walks alone
set_option linter.unusedVariables false
set_option linter.unusedSimpArgs false
theorem netStep_W {n : Nat} {q : Nat → Nat → Bool} {e : S119} (hn : n ≤ 8) (he : edgeOk n e = true) :
  netStep (netW n q) e = netW n (fun x y => q x y || decide (e.f0 = (x : Int) ∧ e.f1 = (y : Int) ∨ e.f0 = (y : Int) ∧ e.f1 = (x : Int))) := by
 simp only [edgeOk, decide_eq_true_eq] at he
 obtain ⟨a, b⟩ := e
 simp only at he
 obtain ⟨i, rfl⟩ : ∃ i : Nat, a = i := ⟨a.toNat, by omega⟩
 obtain ⟨j, rfl⟩ : ∃ j : Nat, b = j := ⟨b.toNat, by omega⟩
 have hi : i < n := by omega
 have hj : j < n := by omega
 have hp : ∀ {k : Nat}, k < n → 2 ^ k < 2 ^ 62 := fun h => Nat.pow_lt_pow_right (by decide) (by omega)
 simp only [netStep, Int.toNat_natCast]
 rw [netW_rd hi, shl_one (by omega), gor _ _ (mk_lt62 _ hn) (hp hj), mk_or_pow hj]
 rw [show ((mk n fun y => q i y || y == j : Nat) : Int) = Int.ofNat (mk n fun y => q i y || y == j) from rfl, netW_set hi]
 rw [netW_rd hj, shl_one (by omega), gor _ _ (mk_lt62 _ hn) (hp hi), mk_or_pow hi]
 rw [show ∀ z : Nat, (z : Int) = Int.ofNat z from fun _ => rfl, netW_set hj]
 congr 1
 funext x y
 have hij : i ≠ j := by omega
 rw [Bool.eq_iff_iff]
 by_cases e1 : x = j
 ·subst e1
  rw [if_pos rfl, if_neg (Ne.symm hij)]
  simp only [Bool.or_eq_true, beq_iff_eq, decide_eq_true_eq, and_true, true_and]
  constructor
  ·rintro (h | h)
   ·exact .inl h
   ·right;omega
  ·rintro (h | h)
   ·exact .inl h
   ·right;omega
 ·rw [if_neg e1]
  by_cases e3 : x = i
  ·subst e3
   rw [if_pos rfl]
   simp only [Bool.or_eq_true, beq_iff_eq, decide_eq_true_eq, and_true, true_and]
   constructor
   ·rintro (h | h)
    ·exact .inl h
    ·right;omega
   ·rintro (h | h)
    ·exact .inl h
    ·right;omega
  ·rw [if_neg e3]
   simp only [Bool.or_eq_true, decide_eq_true_eq]
   constructor
   ·exact .inl
   ·rintro (h | h)
    ·exact h
    ·omega

theorem netW_fold {n : Nat} (hn : n ≤ 8) : ∀ (es : List S119) (q : Nat → Nat → Bool), (∀ e ∈ es, edgeOk n e = true) → es.foldl netStep (netW n q) = netW n (fun x y => q x y || near es x y)
 | [], q, _ => by simp [near]
 | e :: es, q, h => by
  rw [List.foldl_cons, netStep_W hn (h e (by simp)), netW_fold hn es _ (fun x hx => h x (by simp [hx]))]
  congr 1
  funext x y
  simp only [near, List.any_cons, Bool.or_assoc]

def nets (es : List S119) (n : Nat) : List Int := (List.range n).map (fun x => Int.ofNat (nb es n x))

theorem nets_len (es : List S119) (n : Nat) : (nets es n).length = n := by simp [nets]

theorem nets_rd {es : List S119} {n i : Nat} (h : i < n) : rd (nets es n) i = (nb es n i : Nat) := by simp [rd, nets, h]

def okG (n : Int) (es : List S119) : Bool := decide (0 ≤ n ∧ n ≤ 8) && goodL n none es

theorem netOf_eq {n : Nat} {es : List S119} (h : okG n es = true) : impl_netOf.f n es = some (nets es n) := by
 have h2 := h
 simp only [okG, Bool.and_eq_true, decide_eq_true_eq] at h2
 have hn : n ≤ 8 := by omega
 have hz : List.replicate n (0 : Int) = netW n (fun _ _ => false) := by
  apply List.ext_getElem
  ·simp [netW]
  ·intro i h1 h3
   have hm : mk n (fun _ => false) = 0 := mask_ext (n := n) (mk_lt _ _) (Nat.two_pow_pos n) (fun i _ => by rw [mk_bit];simp)
   simp [netW, hm]
 show (if okG n es = true then some (es.foldl netStep (List.replicate (n : Int).toNat 0)) else none) = _
 rw [if_pos h, Int.toNat_natCast, hz, netW_fold hn es _ (goodL_all h2.2)]
 simp [netW, nets, nb]

def mns (a b : Nat) : Nat := a ^^^ (a &&& b)

theorem mns_bit (a b i : Nat) : (mns a b).testBit i = (a.testBit i && !b.testBit i) := by
 unfold mns
 rw [Nat.testBit_xor, Nat.testBit_and]
 cases a.testBit i <;> cases b.testBit i <;> rfl

theorem mns_lt {n a : Nat} (b : Nat) (h : a < 2 ^ n) : mns a b < 2 ^ n := lt_of_bits fun i hi => by rw [mns_bit, bit_lt h hi]; rfl

theorem gandn (a b : Nat) (ha : a < 2 ^ 62) (hb : b < 2 ^ 62) : Go.bits .andNot .i64 (a : Int) (b : Int) = ((mns a b : Nat) : Int) := by
 have h1 : (BitVec.ofNat 64 a &&& ~~~ BitVec.ofNat 64 b).toNat = mns a b := by
  apply Nat.eq_of_testBit_eq
  intro i
  rw [BitVec.testBit_toNat, mns_bit, BitVec.getLsbD_and, BitVec.getLsbD_not, BitVec.getLsbD_ofNat, BitVec.getLsbD_ofNat]
  by_cases hi : i < 64
  ·simp [hi]
  ·have h62 : ∀ {c : Nat}, c < 2 ^ 62 → c.testBit i = false := fun h => bit_lt h (by omega)
   simp [hi, h62 ha]
 have h2 : mns a b < 2 ^ 62 := mns_lt b ha
 show IntKind.i64.wrap (((BitVec.ofInt 64 (a : Int) &&& ~~~ BitVec.ofInt 64 (b : Int)).toNat : Nat) : Int) = _
 rw [BitVec.ofInt_natCast, BitVec.ofInt_natCast, h1]
 exact i64_wrap_id _ (by omega) (by exact_mod_cast h2)

theorem lt62 {n m : Nat} (hn : n ≤ 8) (h : m < 2 ^ n) : m < 2 ^ 62 := Nat.lt_of_lt_of_le h (Nat.pow_le_pow_right (by decide) (by omega))

theorem bl_len_full : ∀ n, n ≤ 8 → ∀ m, m < 2 ^ n → ((bl n m).length = n ↔ m = 2 ^ n - 1) := by decide +kernel

theorem shr_nat (a x : Nat) (h : x < 62) : shr .i64 (a : Int) (x : Int) = ((a >>> x : Nat) : Int) := by
 unfold shr
 have hb : IntKind.bits .i64 = 64 := rfl
 rw [Int.toNat_natCast, hb, Nat.min_eq_left (by omega), Nat.shiftRight_eq_div_pow]
 simp

theorem shr_bit (a x : Nat) (ha : a < 2 ^ 62) (h : x < 62) : Go.bits .and .i64 (shr .i64 (a : Int) (x : Int)) 1 = if a.testBit x then 1 else 0 := by
 have h1 : a >>> x < 2 ^ 62 := Nat.lt_of_le_of_lt (Nat.shiftRight_le a x) ha
 rw [shr_nat a x h, show (1 : Int) = ((1 : Nat) : Int) from rfl, gand _ _ h1 (by decide)]
 simp only [Nat.testBit, bne_iff_ne, ne_eq]
 rw [Nat.and_comm 1, Nat.and_one_is_mod]
 have := Nat.mod_two_eq_zero_or_one (a >>> x)
 rcases this with h | h <;> simp [h]

theorem mask_all (n : Nat) (h : n ≤ 8) : wrap64 (shl .i64 1 (n : Int) - 1) = ((2 ^ n - 1 : Nat) : Int) := by
 rw [shl_one (by omega)]
 have h1 := p8 h
 have h2 : 0 < 2 ^ n := Nat.two_pow_pos n
 rw [w64 (by omega) (by omega)]
 omega

theorem fold_range_succ {α : Type} (n : Nat) (f : α → Nat → α) (a : α) : (List.range (n + 1)).foldl f a = f ((List.range n).foldl f a) n := by
 rw [List.range_succ, List.foldl_append];rfl

theorem l1Own_eq {l : List Int} (h : l.length < 17592186044416) : spec_l1Own.f l = some l := by simp [spec_l1Own.f, h]

theorem l1Put_bl {n m i : Nat} (hn : n ≤ 8) (hi : i < n) : spec_l1Put.f (bl n m) (i : Int) = some (bl n (m ||| 2 ^ i)) := by
 have := bl_len_le n m
 rw [spec_l1Put.f, if_pos (by omega), ins_bl hi]

theorem cnt_mono {p q : Nat → Bool} : ∀ n, (∀ i, i < n → p i = true → q i = true) → ((List.range n).filter p).length ≤ ((List.range n).filter q).length ∧
  (((List.range n).filter q).length ≤ ((List.range n).filter p).length → ∀ i, i < n → q i = true → p i = true)
 | 0, _ => ⟨Nat.le_refl _, fun _ i hi => by omega⟩
 | n + 1, h => by
  obtain ⟨h1, h2⟩ := cnt_mono n (fun i hi => h i (by omega))
  have h3 := h n (by omega)
  rw [filter_range_succ, filter_range_succ, List.length_append, List.length_append]
  cases hp : p n <;> cases hq : q n
  ·simp only [Bool.false_eq_true, ↓reduceIte, List.length_nil, Nat.add_zero]
   refine ⟨h1, fun hle i hi hqi => ?_⟩
   by_cases e : i = n
   ·subst e;rw [hq] at hqi;cases hqi
   ·exact h2 hle i (by omega) hqi
  ·simp only [Bool.false_eq_true, ↓reduceIte, List.length_nil, Nat.add_zero, List.length_cons]
   exact ⟨by omega, fun hle => by omega⟩
  ·rw [h3 hp] at hq;cases hq
  ·simp only [↓reduceIte, List.length_cons, List.length_nil]
   refine ⟨by omega, fun hle i hi hqi => ?_⟩
   by_cases e : i = n
   ·subst e;exact hp
   ·exact h2 (by omega) i (by omega) hqi

theorem bl_len (n m : Nat) : (bl n m).length = ((List.range n).filter (fun x => m.testBit x)).length := by simp [bl]

theorem sub_len {n a b : Nat} (ha : a < 2 ^ n) (hb : b < 2 ^ n) (h : ∀ i, i < n → a.testBit i = true → b.testBit i = true) (hl : (bl n b).length ≤ (bl n a).length) : b = a := by
 rw [bl_len, bl_len] at hl
 have h2 := (cnt_mono n h).2 hl
 exact mask_ext hb ha (fun i hi => by rw [Bool.eq_iff_iff];exact ⟨h2 i hi, h i hi⟩)

theorem l8Inside_ev (n : Int) (es : List S119) (l : List Int) (x : Int) (hl : l.length ≤ 9223372036854775806) (he : es.length ≤ 9223372036854775807) :
  Ev (fun k => spec_l8Inside.f k n es l x) (((l.filter (fun y => near es y x)).length : Nat) : Int) := by
 have H := down l.length (fun i => Ev (fun k => spec_l8Inside.l0 k l x ((((l.take i).filter (fun y => near es y x)).length : Nat) : Int) i n es) (((l.filter (fun y => near es y x)).length : Nat) : Int)) ?_ ?_ 0 (by omega)
 ·simpa [spec_l8Inside.f] using H
 ·show Ev _ _
  rw [Ev.iff_succ]
  simp [spec_l8Inside.l0, Ev.now_iff]
 ·intro i hi ih
  show Ev _ _
  rw [Ev.iff_succ]
  have h1 : (i : Int) < l.length := by omega
  have h2 : (0 : Int) ≤ i := by omega
  have h4 : ((l.take i).filter (fun y => near es y x)).length ≤ i := Nat.le_trans (List.length_filter_le _ _) (List.length_take_le _ _)
  rw [List.take_succ_eq_append_getElem hi, List.filter_append, List.length_append] at ih
  simp only [spec_l8Inside.l0, Ev.ite_iff, h1, h2, ↓reduceIte, w64_succ i (by omega), Ev.bind_iff (l2Near_ev n es _ x he), rd_lt l i hi, w64_succ _ (show ((l.take i).filter (fun y => near es y x)).length < 9223372036854775807 by omega)]
  by_cases c : near es l[i] x = true
  ·rw [if_pos c];simpa [List.filter_cons, c] using ih
  ·rw [if_neg c];simpa [List.filter_cons, c] using ih

theorem u64_wrap_id (m : Nat) (h : m < 2 ^ 62) : IntKind.u64.wrap (m : Int) = (m : Int) := by rw [IntKind.wrap_u64]; omega

theorem ones_small : ∀ n : Nat, n ≤ 8 → ∀ m : Nat, m < 2 ^ n → bits_OnesCount.f (m : Int) = some (((bl n m).length : Nat) : Int) := by decide +kernel

theorem ones_bl {n m : Nat} (hn : n ≤ 8) (hm : m < 2 ^ n) : bits_OnesCount.f (IntKind.u64.wrap (m : Int)) = some (((bl n m).length : Nat) : Int) := by
 rw [u64_wrap_id m (lt62 hn hm), ones_small n hn m hm]

def cntM (es : List S119) (n m x : Nat) : Nat := (bl n (nb es n x &&& m)).length

theorem and_lt_left {n a : Nat} (b : Nat) (h : a < 2 ^ n) : a &&& b < 2 ^ n := lt_of_bits fun i hi => by rw [Nat.testBit_and, bit_lt h hi]; rfl

theorem inside_cnt {es : List S119} {n m x : Nat} : ((bl n m).filter (fun y => near es y x)).length = cntM es n m x := by
 unfold cntM
 congr 1
 refine asc_ext (p := none) (q := none) (asc_of_pairwise ((bl_pairwise n m).filter _) (fun q hq => by cases hq)) (bl_asc _ _) (fun y => ?_)
 rw [List.mem_filter, mem_bl, mem_bl]
 constructor
 ·rintro ⟨⟨i, h1, h2, rfl⟩, h3⟩
  refine ⟨i, h1, ?_, rfl⟩
  rw [Nat.testBit_and, nb_bit, h2, near_comm];simp [h1, h3]
 ·rintro ⟨i, h1, h2, rfl⟩
  rw [Nat.testBit_and, nb_bit] at h2
  simp only [Bool.and_eq_true, decide_eq_true_eq] at h2
  exact ⟨⟨i, h1, h2.2, rfl⟩, by rw [near_comm];exact h2.1.2⟩

theorem cnt_le {es : List S119} {n a b x : Nat} (h : ∀ i, i < n → a.testBit i = true → b.testBit i = true) : cntM es n a x ≤ cntM es n b x := by
 unfold cntM
 rw [bl_len, bl_len]
 refine (cnt_mono n (fun i hi ha => ?_)).1
 rw [Nat.testBit_and, Bool.and_eq_true] at ha ⊢
 exact ⟨ha.1, h i hi ha.2⟩

def closedR (es : List S119) (n : Nat) (r : Int) (m : Nat) : Prop := ∀ x, x < n → (cntM es n m x : Int) ≥ r → m.testBit x = true

def subM (n a b : Nat) : Prop := ∀ i, i < n → a.testBit i = true → b.testBit i = true

theorem subM_refl (n a : Nat) : subM n a a := fun _ _ h => h

theorem subM_trans {n a b c : Nat} (h : subM n a b) (g : subM n b c) : subM n a c := fun i hi ha => g i hi (h i hi ha)

theorem subM_or {n a b : Nat} : subM n a (a ||| b) := fun i _ h => by rw [Nat.testBit_or, h]; rfl

def leastR (es : List S119) (n : Nat) (r : Int) (m c : Nat) : Prop := c < 2 ^ n ∧ subM n m c ∧ closedR es n r c ∧ ∀ d, d < 2 ^ n → subM n m d → closedR es n r d → subM n c d

theorem leastR_unique {es : List S119} {n : Nat} {r : Int} {m c d : Nat} (h : leastR es n r m c) (g : leastR es n r m d) : c = d :=
 mask_ext h.1 g.1 fun i hi => by rw [Bool.eq_iff_iff];exact ⟨h.2.2.2 d g.1 g.2.1 g.2.2.1 i hi, g.2.2.2 c h.1 h.2.1 h.2.2.1 i hi⟩

def spStep (es : List S119) (n : Nat) (r : Int) (m : Nat) (nx x : Nat) : Nat := if (cntM es n m x : Int) ≥ r then nx ||| 2 ^ x else nx

def spOnce (es : List S119) (n : Nat) (r : Int) (m : Nat) : Nat := (List.range n).foldl (spStep es n r m) m

theorem spFold_lt {es : List S119} {n m nx : Nat} {r : Int} (h : nx < 2 ^ n) : ∀ i, i ≤ n → (List.range i).foldl (spStep es n r m) nx < 2 ^ n
 | 0, _ => h
 | i + 1, hi => by
  rw [fold_range_succ]
  have := spFold_lt (es := es) (m := m) (r := r) h i (by omega)
  unfold spStep;split
  ·exact Nat.or_lt_two_pow this (Nat.pow_lt_pow_right (by decide) (by omega))
  ·exact this

theorem spFold_bit {es : List S119} {n m nx y : Nat} {r : Int} : ∀ i, ((List.range i).foldl (spStep es n r m) nx).testBit y = true ↔ nx.testBit y = true ∨ (y < i ∧ (cntM es n m y : Int) ≥ r)
 | 0 => by simp
 | i + 1 => by
  rw [fold_range_succ]
  have ih := spFold_bit (es := es) (n := n) (m := m) (nx := nx) (y := y) (r := r) i
  generalize (List.range i).foldl (spStep es n r m) nx = b at ih ⊢
  unfold spStep
  by_cases c : (cntM es n m i : Int) ≥ r
  ·rw [if_pos c, Nat.testBit_or, Bool.or_eq_true, ih, Nat.testBit_two_pow, decide_eq_true_eq]
   constructor
   ·rintro ((h | h) | h)
    ·exact .inl h
    ·exact .inr ⟨by omega, h.2⟩
    ·subst h;exact .inr ⟨by omega, c⟩
   ·rintro (h | h)
    ·exact .inl (.inl h)
    ·by_cases e : i = y
     ·exact .inr e
     ·exact .inl (.inr ⟨by omega, h.2⟩)
  ·rw [if_neg c, ih]
   constructor
   ·rintro (h | h)
    ·exact .inl h
    ·exact .inr ⟨by omega, h.2⟩
   ·rintro (h | h)
    ·exact .inl h
    ·by_cases e : i = y
     ·subst e;exact absurd h.2 c
     ·exact .inr ⟨by omega, h.2⟩

theorem spOnce_lt {es : List S119} {n m : Nat} {r : Int} (h : m < 2 ^ n) : spOnce es n r m < 2 ^ n := spFold_lt h n (Nat.le_refl _)

theorem spOnce_bit {es : List S119} {n m y : Nat} {r : Int} : (spOnce es n r m).testBit y = true ↔ m.testBit y = true ∨ (y < n ∧ (cntM es n m y : Int) ≥ r) := spFold_bit n

theorem sub_le {n a b : Nat} (ha : a < 2 ^ n) (hb : b < 2 ^ n) (h : subM n a b) : a ≤ b := by
 have e : a ||| b = b := mask_ext (Nat.or_lt_two_pow ha hb) hb (fun i hi => by
  rw [Nat.testBit_or]
  cases hA : a.testBit i
  ·simp
  ·rw [h i hi hA];rfl)
 rw [← e];exact Nat.left_le_or

def spreadM (es : List S119) (n : Nat) (r : Int) (m : Nat) : Nat :=
 if h : m < 2 ^ n ∧ spOnce es n r m ≠ m then spreadM es n r (spOnce es n r m) else m
 termination_by 2 ^ n - m
 decreasing_by
 have h1 := spOnce_lt (es := es) (r := r) h.1
 have h2 := sub_le h.1 h1 (fun i _ hi => spOnce_bit.2 (.inl hi))
 omega

theorem spreadM_least {es : List S119} {n : Nat} {r : Int} {m : Nat} (hm : m < 2 ^ n) : leastR es n r m (spreadM es n r m) := by
 obtain ⟨d, hd⟩ : ∃ d, d = 2 ^ n - m := ⟨_, rfl⟩
 induction d using Nat.strongRecOn generalizing m with
 | _ d ih =>
  unfold spreadM
  have h1 := spOnce_lt (es := es) (r := r) hm
  have h3 : subM n m (spOnce es n r m) := fun i _ hi => spOnce_bit.2 (.inl hi)
  have h2 := sub_le hm h1 h3
  by_cases c : spOnce es n r m = m
  ·rw [dif_neg (by simp [c])]
   refine ⟨hm, subM_refl _ _, fun x hx hc => ?_, fun d _ hs _ => hs⟩
   rw [← c];exact spOnce_bit.2 (.inr ⟨hx, hc⟩)
  ·rw [dif_pos ⟨hm, c⟩]
   obtain ⟨g1, g2, g3, g4⟩ := ih _ (by omega) h1 rfl
   refine ⟨g1, subM_trans h3 g2, g3, fun d hdl hs hc => g4 d hdl (fun i hi hb => ?_) hc⟩
   rcases spOnce_bit.1 hb with h | h
   ·exact hs i hi h
   ·refine hc i hi ?_
    have := cnt_le (es := es) (x := i) hs
    omega

theorem spread_ev (es : List S119) (n : Nat) (r : Int) (hn : n ≤ 8) : ∀ m : Nat, m < 2 ^ n → Ev (fun k => impl_net_spread.f k (nets es n) m r) ((spreadM es n r m : Nat) : Int) := by
 intro m hm
 unfold impl_net_spread.f
 obtain ⟨d, hd⟩ : ∃ d, d = 2 ^ n - m := ⟨_, rfl⟩
 induction d using Nat.strongRecOn generalizing m with
 | _ d ih =>
  rw [Ev.iff_succ]
  simp only [impl_net_spread.l0, nets_len]
  have H := down n (fun i => Ev (fun k => impl_net_spread.l1 k m r (((List.range i).foldl (spStep es n r m) m : Nat) : Int) (nets es n) n i (nets es n)) ((spreadM es n r m : Nat) : Int)) ?_ ?_ 0 (by omega)
  ·simpa using H
  ·show Ev _ _
   rw [Ev.iff_succ]
   simp only [impl_net_spread.l1, Int.lt_irrefl, ↓reduceIte, Ev.ite_iff]
   have h1 := spOnce_lt (es := es) (r := r) hm
   have h2 := sub_le hm h1 (fun i _ hi => spOnce_bit.2 (.inl hi))
   rw [show (List.range n).foldl (spStep es n r m) m = spOnce es n r m from rfl]
   unfold spreadM
   by_cases c : spOnce es n r m = m
   ·rw [if_pos (by rw [c]), dif_neg (by simp [c]), Ev.now_iff]
   ·rw [if_neg (by omega), dif_pos ⟨hm, c⟩]
    exact ih _ (by omega) _ h1 rfl
  ·intro i hi jh
   show Ev _ _
   rw [Ev.iff_succ]
   have h1 : (i : Int) < (n : Int) := by omega
   have h2 : (0 : Int) ≤ i := by omega
   have h3 : (i : Int) < ((nets es n).length : Int) := by rw [nets_len];omega
   have hacc := spFold_lt (es := es) (r := r) (m := m) hm i (by omega)
   have hp : 2 ^ i < 2 ^ n := Nat.pow_lt_pow_right (by decide) hi
   have e1 := gand (nb es n i) m (lt62 hn (nb_lt _ _ _)) (lt62 hn hm)
   have e2 := ones_bl (n := n) hn (and_lt_left m (nb_lt es n i))
   have e3 : ∀ acc : Nat, acc < 2 ^ n → Go.bits .or .i64 (acc : Int) (shl .i64 1 (i : Int)) = ((acc ||| 2 ^ i : Nat) : Int) := fun acc ha => by
    rw [shl_one (by omega)];exact gor _ _ (lt62 hn ha) (lt62 hn hp)
   rw [fold_range_succ] at jh
   generalize (List.range i).foldl (spStep es n r m) m = acc at hacc jh ⊢
   unfold spStep cntM at jh
   simp only [impl_net_spread.l1, Ev.ite_iff, h1, h2, h3, ↓reduceIte, w64_succ i (by omega), nets_rd hi, e1, e2, Option.bind_some, e3 acc hacc]
   by_cases c : (((bl n (nb es n i &&& m)).length : Nat) : Int) ≥ r
   ·rw [if_pos c];rw [if_pos c] at jh;exact jh
   ·rw [if_neg c];rw [if_neg c] at jh;exact jh

def swStep (es : List S119) (n : Nat) (r : Int) (m x : Nat) : Nat := if (cntM es n m x : Int) ≥ r then m ||| 2 ^ x else m

def sweep (es : List S119) (n : Nat) (r : Int) (i m : Nat) : Nat := (List.range i).foldl (swStep es n r) m

theorem sweep_succ (es : List S119) (n : Nat) (r : Int) (i m : Nat) : sweep es n r (i + 1) m = swStep es n r (sweep es n r i m) i := fold_range_succ _ _ _

theorem swStep_sub {es : List S119} {n : Nat} {r : Int} {m x : Nat} : subM n m (swStep es n r m x) := by
 unfold swStep;split
 ·exact subM_or
 ·exact subM_refl _ _

theorem sweep_lt {es : List S119} {n m : Nat} {r : Int} (h : m < 2 ^ n) : ∀ i, i ≤ n → sweep es n r i m < 2 ^ n
 | 0, _ => h
 | i + 1, hi => by
  rw [sweep_succ]
  have := sweep_lt (es := es) (r := r) h i (by omega)
  unfold swStep;split
  ·exact Nat.or_lt_two_pow this (Nat.pow_lt_pow_right (by decide) (by omega))
  ·exact this

theorem sweep_sub {es : List S119} {n : Nat} {r : Int} {m : Nat} : ∀ i, subM n m (sweep es n r i m)
 | 0 => subM_refl _ _
 | i + 1 => by rw [sweep_succ];exact subM_trans (sweep_sub i) swStep_sub

theorem sweep_in {es : List S119} {n : Nat} {r : Int} {m d : Nat} (hs : subM n m d) (hc : closedR es n r d) : ∀ i, i ≤ n → subM n (sweep es n r i m) d
 | 0, _ => hs
 | i + 1, hi => by
  have ih := sweep_in hs hc i (by omega)
  rw [sweep_succ]
  unfold swStep;split
  ·rename_i c
   intro j hj hb
   rw [Nat.testBit_or, Bool.or_eq_true, Nat.testBit_two_pow, decide_eq_true_eq] at hb
   rcases hb with h | h
   ·exact ih j hj h
   ·subst h
    refine hc i hj ?_
    have := cnt_le (es := es) (x := i) ih
    omega
  ·exact ih

theorem sweep_has {es : List S119} {n : Nat} {r : Int} {m x : Nat} (hx : x < n) (hc : (cntM es n m x : Int) ≥ r) : ∀ i, x < i → (sweep es n r i m).testBit x = true
 | 0, h => by omega
 | i + 1, h => by
  rw [sweep_succ]
  by_cases e : x = i
  ·subst e
   unfold swStep
   have := cnt_le (es := es) (x := x) (sweep_sub (es := es) (n := n) (r := r) (m := m) x)
   rw [if_pos (by omega), Nat.testBit_or, Nat.testBit_two_pow];simp
  ·exact swStep_sub x hx (sweep_has hx hc i (by omega))

def sweeps (es : List S119) (n : Nat) (r : Int) : Nat → Nat → Nat
 | 0, m => m
 | j + 1, m => sweeps es n r j (sweep es n r n m)

theorem len_sub {n a b : Nat} (h : subM n a b) : (bl n a).length ≤ (bl n b).length := by rw [bl_len, bl_len]; exact (cnt_mono n h).1

theorem closed_of_sweep {es : List S119} {n : Nat} {r : Int} {m : Nat} (h : sweep es n r n m = m) : closedR es n r m := fun x hx hc => by rw [← h]; exact sweep_has hx hc n hx

end Go.Proofs.Ytmokkhfmbenleaa.QSpreading
