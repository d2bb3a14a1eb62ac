import Derived.Test.YtheplhphonfckaaQIsDominatingA0
namespace Go.Proofs.Ytheplhphonfckaa.QIsDominating
open Go.RowKit Go.Proofs.YtheplhphonfckaaW.PrintWords Go.Proofs.YtheplhphonfckaaW.PrintLast Go.Proofs.YtheplhphonfckaaW.PrintMore
attribute [local go_sem] max2_int min2_int max_two min_two max_three min_three max_four min_four   -- for this text's walks alone
set_option linter.unusedVariables false
set_option linter.unusedSimpArgs false
--# netOf
/-- The rows of a net: of each node the set of those that q tells. -/
def netW (n : Nat) (q : Nat → Nat → Bool) : List Int := (List.range n).map (fun x => Int.ofNat (mk n (q x)))
theorem netW_len (n : Nat) (q : Nat → Nat → Bool) : (netW n q).length = n := by simp [netW]
theorem netW_rd {n : Nat} {q : Nat → Nat → Bool} {i : Nat} (h : i < n) : rd (netW n q) i = (mk n (q i) : Nat) := by simp [rd, netW, h]
theorem netW_set {n : Nat} {q : Nat → Nat → Bool} {i : Nat} {p : Nat → Bool} (_ : i < n) : (netW n q).set i (Int.ofNat (mk n p)) = netW n (fun x => if x = i then p else q x) := by
  apply List.ext_getElem
  · simp [netW]
  · intro j h1 h2
    simp only [List.getElem_set, netW, List.getElem_map, List.getElem_range]
    by_cases e : i = j
    · subst e; simp
    · simp [e, show ¬ j = i from fun h => e h.symm]
theorem shl_one {j : Nat} (h : j < 62) : shl .i64 1 (j : Int) = ((2 ^ j : Nat) : Int) := by
  unfold shl
  have hb : IntKind.bits .i64 = 64 := rfl
  have h1 : (2 : Nat) ^ j < 2 ^ 62 := Nat.pow_lt_pow_right (by decide) h
  rw [Int.toNat_natCast, hb, Nat.min_eq_left (by omega), Int.one_mul, i64_wrap_id]
  · simp
  · exact Int.pow_nonneg (by decide)
  · exact_mod_cast h1
theorem mk_or_pow {n : Nat} {p : Nat → Bool} {j : Nat} (h : j < n) : mk n p ||| 2 ^ j = mk n (fun y => p y || y == j) := by
  refine mask_ext (n := n) (Nat.or_lt_two_pow (mk_lt _ _) (Nat.pow_lt_pow_right (by decide) h)) (mk_lt _ _) (fun i hi => ?_)
  rw [Nat.testBit_or, mk_bit, mk_bit, Nat.testBit_two_pow]
  by_cases e : j = i
  · subst e; simp [hi]
  · simp [hi, e, show ¬ i = j from fun h => e h.symm]
theorem mk_lt62 {n : Nat} (p : Nat → Bool) (hn : n ≤ 8) : mk n p < 2 ^ 62 := Nat.lt_of_lt_of_le (mk_lt n p) (Nat.pow_le_pow_right (by decide) (by omega))
theorem netStep_W {n : Nat} {q : Nat → Nat → Bool} {e : S72} (hn : n ≤ 8) (he : edgeOk n e = true) :
    netStep (netW n q) e = netW n (fun x y => q x y || decide (e.f0 = (x : Int) ∧ e.f1 = (y : Int) ∨ e.f0 = (y : Int) ∧ e.f1 = (x : Int))) := by
  simp only [edgeOk, decide_eq_true_eq] at he
  obtain ⟨a, b⟩ := e
  simp only at he
  obtain ⟨i, rfl⟩ : ∃ i : Nat, a = i := ⟨a.toNat, by omega⟩
  obtain ⟨j, rfl⟩ : ∃ j : Nat, b = j := ⟨b.toNat, by omega⟩
  have hi : i < n := by omega
  have hj : j < n := by omega
  have hp : ∀ {k : Nat}, k < n → 2 ^ k < 2 ^ 62 := fun h => Nat.pow_lt_pow_right (by decide) (by omega)
  simp only [netStep, Int.toNat_natCast]
  rw [netW_rd hi, shl_one (by omega), gor _ _ (mk_lt62 _ hn) (hp hj), mk_or_pow hj]
  rw [show ((mk n fun y => q i y || y == j : Nat) : Int) = Int.ofNat (mk n fun y => q i y || y == j) from rfl, netW_set hi]
  rw [netW_rd hj, shl_one (by omega), gor _ _ (mk_lt62 _ hn) (hp hi), mk_or_pow hi]
  rw [show ∀ z : Nat, (z : Int) = Int.ofNat z from fun _ => rfl, netW_set hj]
  congr 1
  funext x y
  have hij : i ≠ j := by omega
  rw [Bool.eq_iff_iff]
  by_cases e1 : x = j
  · subst e1
    rw [if_pos rfl, if_neg (Ne.symm hij)]
    simp only [Bool.or_eq_true, beq_iff_eq, decide_eq_true_eq, and_true, true_and]
    constructor
    · rintro (h | h)
      · exact .inl h
      · right; omega
    · rintro (h | h)
      · exact .inl h
      · right; omega
  · rw [if_neg e1]
    by_cases e3 : x = i
    · subst e3
      rw [if_pos rfl]
      simp only [Bool.or_eq_true, beq_iff_eq, decide_eq_true_eq, and_true, true_and]
      constructor
      · rintro (h | h)
        · exact .inl h
        · right; omega
      · rintro (h | h)
        · exact .inl h
        · right; omega
    · rw [if_neg e3]
      simp only [Bool.or_eq_true, decide_eq_true_eq]
      constructor
      · exact .inl
      · rintro (h | h)
        · exact h
        · omega
theorem netW_fold {n : Nat} (hn : n ≤ 8) : ∀ (es : List S72) (q : Nat → Nat → Bool), (∀ e ∈ es, edgeOk n e = true) → es.foldl netStep (netW n q) = netW n (fun x y => q x y || near es x y)
  | [], q, _ => by simp [near]
  | e :: es, q, h => by
    rw [List.foldl_cons, netStep_W hn (h e (by simp)), netW_fold hn es _ (fun x hx => h x (by simp [hx]))]
    congr 1
    funext x y
    simp only [near, List.any_cons, Bool.or_assoc]
/-- The rows of the net of a graph. -/
def nets (es : List S72) (n : Nat) : List Int := (List.range n).map (fun x => Int.ofNat (nb es n x))
theorem nets_len (es : List S72) (n : Nat) : (nets es n).length = n := by simp [nets]
theorem nets_rd {es : List S72} {n i : Nat} (h : i < n) : rd (nets es n) i = (nb es n i : Nat) := by simp [rd, nets, h]
def okG (n : Int) (es : List S72) : Bool := decide (0 ≤ n ∧ n ≤ 8) && goodL n none es
theorem netOf_eq {n : Nat} {es : List S72} (h : okG n es = true) : impl_netOf.f n es = some (nets es n) := by
  have h2 := h
  simp only [okG, Bool.and_eq_true, decide_eq_true_eq] at h2
  have hn : n ≤ 8 := by omega
  have hz : List.replicate n (0 : Int) = netW n (fun _ _ => false) := by
    apply List.ext_getElem
    · simp [netW]
    · intro i h1 h3
      have hm : mk n (fun _ => false) = 0 := mask_ext (n := n) (mk_lt _ _) (Nat.two_pow_pos n) (fun i _ => by rw [mk_bit]; simp)
      simp [netW, hm]
  show (if okG n es = true then some (es.foldl netStep (List.replicate (n : Int).toNat 0)) else none) = _
  rw [if_pos h, Int.toNat_natCast, hz, netW_fold hn es _ (goodL_all h2.2)]
  simp [netW, nets, nb]

--# gandn
/-- What one set has and another one lacks. -/
def mns (a b : Nat) : Nat := a ^^^ (a &&& b)
theorem mns_bit (a b i : Nat) : (mns a b).testBit i = (a.testBit i && !b.testBit i) := by
  unfold mns
  rw [Nat.testBit_xor, Nat.testBit_and]
  cases a.testBit i <;> cases b.testBit i <;> rfl
theorem mns_lt {n a : Nat} (b : Nat) (h : a < 2 ^ n) : mns a b < 2 ^ n := lt_of_bits fun i hi => by rw [mns_bit, bit_lt h hi]; rfl
theorem gandn (a b : Nat) (ha : a < 2 ^ 62) (hb : b < 2 ^ 62) : Go.bits .andNot .i64 (a : Int) (b : Int) = ((mns a b : Nat) : Int) := by
  have h1 : (BitVec.ofNat 64 a &&& ~~~ BitVec.ofNat 64 b).toNat = mns a b := by
    apply Nat.eq_of_testBit_eq
    intro i
    rw [BitVec.testBit_toNat, mns_bit, BitVec.getLsbD_and, BitVec.getLsbD_not, BitVec.getLsbD_ofNat, BitVec.getLsbD_ofNat]
    by_cases hi : i < 64
    · simp [hi]
    · have h62 : ∀ {c : Nat}, c < 2 ^ 62 → c.testBit i = false := fun h => bit_lt h (by omega)
      simp [hi, h62 ha]
  have h2 : mns a b < 2 ^ 62 := mns_lt b ha
  show IntKind.i64.wrap (((BitVec.ofInt 64 (a : Int) &&& ~~~ BitVec.ofInt 64 (b : Int)).toNat : Nat) : Int) = _
  rw [BitVec.ofInt_natCast, BitVec.ofInt_natCast, h1]
  exact i64_wrap_id _ (by omega) (by exact_mod_cast h2)
theorem lt62 {n m : Nat} (hn : n ≤ 8) (h : m < 2 ^ n) : m < 2 ^ 62 := Nat.lt_of_lt_of_le h (Nat.pow_le_pow_right (by decide) (by omega))


--# pow
/-- Has a set just one node? -/
def isPow (L : Nat) : Bool := decide (L ≠ 0 ∧ L &&& (L - 1) = 0)
theorem isPow_spec : ∀ n, n ≤ 8 → ∀ L, L < 2 ^ n → isPow L = true → ∃ y, y < n ∧ L = 2 ^ y := by decide +kernel
theorem isPow_len : ∀ n, n ≤ 8 → ∀ L, L < 2 ^ n → isPow L = decide ((bl n L).length = 1) := by decide +kernel
theorem bl_pow : ∀ n, n ≤ 8 → ∀ y, y < n → bl n (2 ^ y) = [Int.ofNat y] := by decide +kernel
theorem bl_len_full : ∀ n, n ≤ 8 → ∀ m, m < 2 ^ n → ((bl n m).length = n ↔ m = 2 ^ n - 1) := by decide +kernel


--# shr
theorem shr_nat (a x : Nat) (h : x < 62) : shr .i64 (a : Int) (x : Int) = ((a >>> x : Nat) : Int) := by
  unfold shr
  have hb : IntKind.bits .i64 = 64 := rfl
  rw [Int.toNat_natCast, hb, Nat.min_eq_left (by omega), Nat.shiftRight_eq_div_pow]
  simp
theorem shr_bit (a x : Nat) (ha : a < 2 ^ 62) (h : x < 62) : Go.bits .and .i64 (shr .i64 (a : Int) (x : Int)) 1 = if a.testBit x then 1 else 0 := by
  have h1 : a >>> x < 2 ^ 62 := Nat.lt_of_le_of_lt (Nat.shiftRight_le a x) ha
  rw [shr_nat a x h, show (1 : Int) = ((1 : Nat) : Int) from rfl, gand _ _ h1 (by decide)]
  simp only [Nat.testBit, bne_iff_ne, ne_eq]
  rw [Nat.and_comm 1, Nat.and_one_is_mod]
  have := Nat.mod_two_eq_zero_or_one (a >>> x)
  rcases this with h | h <;> simp [h]
theorem mask_all (n : Nat) (h : n ≤ 8) : wrap64 (shl .i64 1 (n : Int) - 1) = ((2 ^ n - 1 : Nat) : Int) := by
  rw [shl_one (by omega)]
  have h1 := p8 h
  have h2 : 0 < 2 ^ n := Nat.two_pow_pos n
  rw [w64 (by omega) (by omega)]
  omega

--# once
/-- The neighbors of a node that a set lacks. -/
def opM (es : List S72) (n m x : Nat) : Nat := mns (nb es n x) m
theorem opM_lt (es : List S72) (n m x : Nat) : opM es n m x < 2 ^ n := mns_lt _ (nb_lt es n x)
def fStep (es : List S72) (n m : Nat) (skew : Bool) (nx x : Nat) : Nat :=
  if (skew || m.testBit x) && isPow (opM es n m x) then nx ||| opM es n m x else nx
/-- What is coloured behind a round. -/
def onceM (es : List S72) (n m : Nat) (skew : Bool) : Nat := (List.range n).foldl (fStep es n m skew) m
theorem fold_range_succ {α : Type} (n : Nat) (f : α → Nat → α) (a : α) : (List.range (n + 1)).foldl f a = f ((List.range n).foldl f a) n := by
  rw [List.range_succ, List.foldl_append]; rfl
theorem fStep_lt {es : List S72} {n m nx x : Nat} {skew : Bool} (h : nx < 2 ^ n) : fStep es n m skew nx x < 2 ^ n := by
  unfold fStep; split
  · exact Nat.or_lt_two_pow h (opM_lt _ _ _ _)
  · exact h
theorem fold_lt {es : List S72} {n m nx : Nat} {skew : Bool} (h : nx < 2 ^ n) : ∀ i, (List.range i).foldl (fStep es n m skew) nx < 2 ^ n
  | 0 => h
  | i + 1 => by rw [fold_range_succ]; exact fStep_lt (fold_lt h i)
theorem onceM_lt {es : List S72} {n m : Nat} {skew : Bool} (h : m < 2 ^ n) : onceM es n m skew < 2 ^ n := fold_lt h n
theorem fold_le {es : List S72} {n m nx : Nat} {skew : Bool} : ∀ i, nx ≤ (List.range i).foldl (fStep es n m skew) nx
  | 0 => Nat.le_refl _
  | i + 1 => by
    rw [fold_range_succ]
    refine Nat.le_trans (fold_le (es := es) (n := n) (m := m) (skew := skew) i) ?_
    unfold fStep; split
    · exact Nat.left_le_or
    · exact Nat.le_refl _
theorem onceM_le (es : List S72) (n m : Nat) (skew : Bool) : m ≤ onceM es n m skew := fold_le n
theorem fold_bits {es : List S72} {n m nx : Nat} {skew : Bool} {y : Nat} (h : nx.testBit y = true) : ∀ i, ((List.range i).foldl (fStep es n m skew) nx).testBit y = true
  | 0 => h
  | i + 1 => by
    rw [fold_range_succ]
    have := fold_bits (es := es) (n := n) (m := m) (skew := skew) h i
    generalize (List.range i).foldl (fStep es n m skew) nx = acc at this ⊢
    unfold fStep; split
    · rw [Nat.testBit_or, this]; rfl
    · exact this


--# aroM
/-- A set and its neighbors. -/
def aStep (es : List S72) (n m : Nat) (acc x : Nat) : Nat := if m.testBit x then acc ||| nb es n x else acc
def aroM (es : List S72) (n m : Nat) : Nat := (List.range n).foldl (aStep es n m) m
theorem aStep_lt {es : List S72} {n m acc x : Nat} (h : acc < 2 ^ n) : aStep es n m acc x < 2 ^ n := by
  unfold aStep; split
  · exact Nat.or_lt_two_pow h (nb_lt _ _ _)
  · exact h
theorem aFold_lt {es : List S72} {n m acc : Nat} (h : acc < 2 ^ n) : ∀ i, (List.range i).foldl (aStep es n m) acc < 2 ^ n
  | 0 => h
  | i + 1 => by rw [fold_range_succ]; exact aStep_lt (aFold_lt h i)
theorem aroM_lt {es : List S72} {n m : Nat} (h : m < 2 ^ n) : aroM es n m < 2 ^ n := aFold_lt h n
theorem aFold_bit (es : List S72) (n m acc y : Nat) : ∀ i, ((List.range i).foldl (aStep es n m) acc).testBit y = true ↔ acc.testBit y = true ∨ ∃ x, x < i ∧ m.testBit x = true ∧ (nb es n x).testBit y = true
  | 0 => by simp
  | i + 1 => by
    rw [fold_range_succ]
    have ih := aFold_bit es n m acc y i
    generalize (List.range i).foldl (aStep es n m) acc = b at ih ⊢
    unfold aStep
    have key : (∃ x, x < i + 1 ∧ m.testBit x = true ∧ (nb es n x).testBit y = true) ↔ (∃ x, x < i ∧ m.testBit x = true ∧ (nb es n x).testBit y = true) ∨ (m.testBit i = true ∧ (nb es n i).testBit y = true) := by
      constructor
      · rintro ⟨x, h1, h2⟩
        by_cases e : x = i
        · subst e; exact .inr h2
        · exact .inl ⟨x, by omega, h2⟩
      · rintro (⟨x, h1, h2⟩ | h2)
        · exact ⟨x, by omega, h2⟩
        · exact ⟨i, by omega, h2⟩
    rw [key]
    by_cases c : m.testBit i = true
    · rw [if_pos c, Nat.testBit_or, Bool.or_eq_true, ih]; simp only [c, true_and, or_assoc]
    · rw [if_neg c, ih]; simp only [c, false_and, or_false]; simp
theorem aroM_bit (es : List S72) (n m y : Nat) : (aroM es n m).testBit y = true ↔ m.testBit y = true ∨ ∃ x, x < n ∧ m.testBit x = true ∧ (nb es n x).testBit y = true := aFold_bit es n m m y n


--# around
theorem around_ev (es : List S72) (n m : Nat) (hn : n ≤ 8) (hm : m < 2 ^ n) : Ev (fun k => impl_net_around.f k (nets es n) m) ((aroM es n m : Nat) : Int) := by
  have H := down n (fun i => Ev (fun k => impl_net_around.l0 k m (((List.range i).foldl (aStep es n m) m : Nat) : Int) (nets es n) n i) ((aroM es n m : Nat) : Int)) ?_ ?_ 0 (by omega)
  · simpa [impl_net_around.f, nets_len] using H
  · show Ev _ _
    rw [Ev.iff_succ]
    simp [impl_net_around.l0, Ev.now_iff, aroM]
  · intro i hi ih
    show Ev _ _
    rw [Ev.iff_succ]
    have h1 : (i : Int) < (n : Int) := by omega
    have h2 : (0 : Int) ≤ i := by omega
    have h3 : (i : Int) < ((nets es n).length : Int) := by rw [nets_len]; omega
    have hacc := aFold_lt (es := es) (m := m) hm i
    have hb := nb_lt es n i
    have e2 : ∀ acc : Nat, acc < 2 ^ n → Go.bits .or .i64 (acc : Int) ((nb es n i : Nat) : Int) = ((acc ||| nb es n i : Nat) : Int) := fun acc ha => gor _ _ (lt62 hn ha) (lt62 hn hb)
    rw [fold_range_succ] at ih
    generalize (List.range i).foldl (aStep es n m) m = acc at hacc ih ⊢
    unfold aStep at ih
    have e3 := shr_bit m i (lt62 hn hm) (by omega)
    simp only [impl_net_around.l0, Ev.ite_iff, h1, h2, h3, ↓reduceIte, w64_succ i (by omega), nets_rd hi, e3, e2 acc hacc]
    cases c : m.testBit i
    · rw [c] at ih; simpa using ih
    · rw [c] at ih; simpa using ih

--# l8Inside
theorem l8Inside_ev (n : Int) (es : List S72) (l : List Int) (x : Int) (hl : l.length ≤ 9223372036854775806) (he : es.length ≤ 9223372036854775807) :
    Ev (fun k => spec_l8Inside.f k n es l x) (((l.filter (fun y => near es y x)).length : Nat) : Int) := by
  have H := down l.length (fun i => Ev (fun k => spec_l8Inside.l0 k l x ((((l.take i).filter (fun y => near es y x)).length : Nat) : Int) i n es) (((l.filter (fun y => near es y x)).length : Nat) : Int)) ?_ ?_ 0 (by omega)
  · simpa [spec_l8Inside.f] using H
  · show Ev _ _
    rw [Ev.iff_succ]
    simp [spec_l8Inside.l0, Ev.now_iff]
  · intro i hi ih
    show Ev _ _
    rw [Ev.iff_succ]
    have h1 : (i : Int) < l.length := by omega
    have h2 : (0 : Int) ≤ i := by omega
    have h4 : ((l.take i).filter (fun y => near es y x)).length ≤ i := Nat.le_trans (List.length_filter_le _ _) (List.length_take_le _ _)
    rw [List.take_succ_eq_append_getElem hi, List.filter_append, List.length_append] at ih
    simp only [spec_l8Inside.l0, Ev.ite_iff, h1, h2, ↓reduceIte, w64_succ i (by omega), Ev.bind_iff (l2Near_ev n es _ x he), rd_lt l i hi, w64_succ _ (show ((l.take i).filter (fun y => near es y x)).length < 9223372036854775807 by omega)]
    by_cases c : near es l[i] x = true
    · rw [if_pos c]; simpa [List.filter_cons, c] using ih
    · rw [if_neg c]; simpa [List.filter_cons, c] using ih
theorem inside_zero {es : List S72} {n m : Nat} {x : Nat} (hx : x < n) : ((((bl n m).filter (fun y => near es y x)).length : Nat) : Int) = 0 ↔ ¬ ∃ y, y < n ∧ m.testBit y = true ∧ (nb es n y).testBit x = true := by
  rw [show ∀ z : Nat, (z : Int) = 0 ↔ z = 0 from fun z => by omega, List.length_eq_zero_iff, List.filter_eq_nil_iff]
  constructor
  · rintro h ⟨y, h1, h2, h3⟩
    rw [nb_bit] at h3
    simp only [Bool.and_eq_true, decide_eq_true_eq] at h3
    exact h (y : Int) (mem_bl_nat.2 ⟨h1, h2⟩) h3.2
  · rintro h a ha hn
    obtain ⟨i, h1, h2, rfl⟩ := mem_bl.1 ha
    refine h ⟨i, h1, h2, ?_⟩
    rw [nb_bit]; simp [hx, hn]


--# l10Dominates
theorem l10Dominates_ev (es : List S72) (n m : Nat) (hn : n ≤ 8) (hm : m < 2 ^ n) (hl : es.length ≤ 9223372036854775807) : Ev (fun k => spec_l10Dominates.f k n es (bl n m)) (decide (aroM es n m = 2 ^ n - 1)) := by
  have hb := bl_len_le n m
  have hfull : aroM es n m = 2 ^ n - 1 ↔ ∀ y, y < n → (aroM es n m).testBit y = true := by
    constructor
    · intro h y hy; rw [h, Nat.testBit_two_pow_sub_one]; simp [hy]
    · intro h
      refine mask_ext (n := n) (aroM_lt hm) (by have := Nat.two_pow_pos n; omega) (fun i hi => ?_)
      rw [h i hi, Nat.testBit_two_pow_sub_one]; simp [hi]
  have H := down n (fun i => Ev (fun k => spec_l10Dominates.l0 k (bl n m) i n es) (decide (∀ y, y < n → i ≤ y → (aroM es n m).testBit y = true))) ?_ ?_ 0 (by omega)
  · have e : (decide (∀ y, y < n → 0 ≤ y → (aroM es n m).testBit y = true)) = decide (aroM es n m = 2 ^ n - 1) := by
      rw [Bool.eq_iff_iff]; simp only [decide_eq_true_eq, hfull]; exact ⟨fun h y hy => h y hy (by omega), fun h y hy _ => h y hy⟩
    rw [e] at H
    simpa [spec_l10Dominates.f] using H
  · show Ev _ _
    rw [Ev.iff_succ]
    simp only [spec_l10Dominates.l0, Int.lt_irrefl, ↓reduceIte, Ev.now_iff]
    symm; rw [decide_eq_true_eq]; intro y h1 h2; omega
  · intro i hi ih
    show Ev _ _
    rw [Ev.iff_succ]
    have h1 : (i : Int) < (n : Int) := by omega
    have hc : (∀ y, y < n → i ≤ y → (aroM es n m).testBit y = true) ↔ (aroM es n m).testBit i = true ∧ ∀ y, y < n → i + 1 ≤ y → (aroM es n m).testBit y = true := by
      constructor
      · intro h; exact ⟨h i hi (Nat.le_refl _), fun y h2 h1 => h y h2 (by omega)⟩
      · rintro ⟨h1, h2⟩ y h4 h3
        by_cases e : y = i
        · subst e; exact h1
        · exact h2 y h4 (by omega)
    simp only [spec_l10Dominates.l0, Ev.ite_iff, h1, ↓reduceIte, w64_succ i (by omega), Ev.bind_iff (l1Has_ev (bl n m) i (by omega)), Ev.bind_iff (l8Inside_ev n es (bl n m) i (by omega) hl), inside_zero (es := es) (m := m) hi, Ev.now_iff]
    simp only [hc]
    have hbit := aroM_bit es n m i
    by_cases c : m.testBit i = true
    · have : (aroM es n m).testBit i = true := hbit.2 (.inl c)
      simp only [mem_bl_nat, hi, c, this, true_and, decide_true, ↓reduceIte]; exact ih
    · simp only [mem_bl_nat, c, and_false, decide_false, Bool.false_eq_true, ↓reduceIte]
      by_cases d : ∃ y, y < n ∧ m.testBit y = true ∧ (nb es n y).testBit i = true
      · have : (aroM es n m).testBit i = true := hbit.2 (.inr d)
        simp only [d, not_true, ↓reduceIte, this, true_and]; exact ih
      · have : ¬ (aroM es n m).testBit i = true := fun h => by rcases hbit.1 h with h | h; exact c h; exact d h
        simp [d, this]


--# fill
theorem set_fill {α : Type} (l : List α) (z : α) (i : Nat) (h : i < l.length) : (l.take i ++ List.replicate (l.length - i) z).set i l[i] = l.take (i + 1) ++ List.replicate (l.length - (i + 1)) z := by
  rw [List.take_succ_eq_append_getElem h, show l.length - i = (l.length - (i + 1)) + 1 by omega, List.replicate_succ]
  have h1 : (l.take i).length = i := by rw [List.length_take]; omega
  rw [List.set_append_right _ _ (by omega), h1, Nat.sub_self, List.set_cons_zero, List.append_assoc]
  rfl


--# toIntS
theorem toIntS_ev (l : List Int) (hl : l.length ≤ 35184372088832) : Ev (fun k => laws_toIntS.f k l) l := by
  unfold laws_toIntS.f
  rw [Ev.ite_iff, if_pos (by omega), Ev.ite_iff, if_pos (by omega), Int.toNat_natCast]
  have H := down l.length (fun i => Ev (fun k => laws_toIntS.l0 k l (l.take i ++ List.replicate (l.length - i) 0) i) l) ?_ ?_ 0 (by omega)
  · simpa using H
  · show Ev _ _
    rw [Ev.iff_succ]
    simp [laws_toIntS.l0, Ev.now_iff]
  · intro i hi ih
    show Ev _ _
    rw [Ev.iff_succ]
    have h1 : (i : Int) < l.length := by omega
    have h2 : (0 : Int) ≤ i := by omega
    have h3 : (i : Int) < ((l.take i ++ List.replicate (l.length - i) (0 : Int)).length : Int) := by
      rw [List.length_append, List.length_take, List.length_replicate]; omega
    simp only [laws_toIntS.l0, Ev.ite_iff, h1, h2, h3, ↓reduceIte, w64_succ i (by omega), rd_lt l i hi, Int.toNat_natCast]
    rw [set_fill l 0 i hi]
    exact ih


--# toGraph
theorem toIntA2_eq (a b : Int) : laws_toIntA2.f a b = some (a, b) := rfl
theorem toIntA2S_ev (l : List S72) (hl : l.length ≤ 17592186044416) : Ev (fun k => laws_toIntA2S.f k l) l := by
  unfold laws_toIntA2S.f
  rw [Ev.ite_iff, if_pos (by omega), Ev.ite_iff, if_pos (by omega), Int.toNat_natCast]
  have H := down l.length (fun i => Ev (fun k => laws_toIntA2S.l0 k l (l.take i ++ List.replicate (l.length - i) z72) i) l) ?_ ?_ 0 (by omega)
  · simpa using H
  · show Ev _ _
    rw [Ev.iff_succ]
    simp [laws_toIntA2S.l0, Ev.now_iff]
  · intro i hi ih
    show Ev _ _
    rw [Ev.iff_succ]
    have h1 : (i : Int) < l.length := by omega
    have h2 : (0 : Int) ≤ i := by omega
    have h3 : (i : Int) < ((l.take i ++ List.replicate (l.length - i) z72).length : Int) := by
      rw [List.length_append, List.length_take, List.length_replicate]; omega
    have h4 : rd_T72 l i = l[i] := by simp [rd_T72, hi]
    simp only [laws_toIntA2S.l0, Ev.ite_iff, h1, h2, ↓reduceIte, toIntA2_eq, Option.bind_some, h3, w64_succ i (by omega), h4, Int.toNat_natCast]
    rw [set_fill l _ i hi]
    exact ih
theorem toGraph_ev (n : Int) (es : List S72) (hl : es.length ≤ 17592186044416) : Ev (fun k => laws_toGraph.f k n es) (n, es) := by
  unfold laws_toGraph.f
  rw [Ev.bind_iff (toIntA2S_ev es hl), Ev.now_iff]


--# eqIntS
theorem eqIntS_refl (l : List Int) (hl : l.length ≤ 9223372036854775807) : Ev (fun k => laws_eqIntS.f k l l) true := by
  unfold laws_eqIntS.f
  rw [Ev.ite_iff, if_pos rfl]
  have H := down l.length (fun i => Ev (fun k => laws_eqIntS.l0 k l l i) true) ?_ ?_ 0 (by omega)
  · simpa using H
  · show Ev _ _
    rw [Ev.iff_succ]
    simp [laws_eqIntS.l0, Ev.now_iff]
  · intro i hi ih
    show Ev _ _
    rw [Ev.iff_succ]
    have h1 : (i : Int) < l.length := by omega
    have h2 : (0 : Int) ≤ i := by omega
    simp only [laws_eqIntS.l0, Ev.ite_iff, h1, h2, ↓reduceIte, w64_succ i (by omega)]
    exact ih


end Go.Proofs.Ytheplhphonfckaa.QIsDominating
