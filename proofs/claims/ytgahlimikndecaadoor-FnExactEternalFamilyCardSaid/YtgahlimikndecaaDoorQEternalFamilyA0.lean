import Derived.Test.YtgahlimikndecaaDoorQEternalFamily0
import Derived.Test.YtgahlimikndecaaDoorQEternalFamily1
import Derived.Test.YtgahlimikndecaaDoorQEternalFamily2
import Derived.Test.YtgahlimikndecaaDoorQEternalFamily3
import Derived.Test.YtgahlimikndecaaDoorQEternalFamily4
import Derived.Test.YtgahlimikndecaaDoorQEternalFamily5
import Derived.Test.YtgahlimikndecaaDoorQEternalFamily6
import Derived.Test.YtgahlimikndecaaDoorQEternalFamily7
import Derived.Test.YtgahlimikndecaaDoorQEternalFamily9
import Derived.Laws.BitsLemmas
namespace Go.Proofs.YtgahlimikndecaaDoor.QEternalFamily
open Go.RowKit Go.Proofs.YtgahlimikndecaaDoorW.PrintWords Go.Proofs.YtgahlimikndecaaDoorW.PrintLast Go.Proofs.YtgahlimikndecaaDoorW.PrintMore
attribute [local go_sem] max2_int min2_int max_two min_two max_three min_three max_four min_four   -- for this text's walks alone
set_option linter.unusedVariables false
set_option linter.unusedSimpArgs false
set_option maxRecDepth 100000
set_option maxHeartbeats 8000000
theorem Ev.iff_succ {α : Type} {g : Nat → Option α} {r : α} : Ev g r ↔ Ev (fun k => g (k + 1)) r := by
 constructor
 ·rintro ⟨K, h⟩;exact ⟨K, fun k hk => h _ (by omega)⟩
 ·rintro ⟨K, h⟩
  refine ⟨K + 1, fun k hk => ?_⟩
  obtain ⟨j, rfl⟩ : ∃ j, k = j + 1 := ⟨k - 1, by omega⟩
  exact h j (by omega)

theorem Ev.now_iff {α : Type} {x r : α} : Ev (fun _ => some x) r ↔ x = r := by
 constructor
 ·rintro ⟨K, h⟩;exact Option.some.inj (h K (Nat.le_refl _))
 ·rintro rfl;exact Ev.now _

theorem Ev.none_iff {α : Type} {r : α} : Ev (fun _ => (none : Option α)) r ↔ False := by
 constructor
 ·rintro ⟨K, h⟩;have := h K (Nat.le_refl _);simp at this
 ·simp

theorem Ev.bind_iff {α β : Type} {g : Nat → Option α} {f : Nat → α → Option β} {a : α} {r : β} (h : Ev g a) : Ev (fun n => (g n).bind (f n)) r ↔ Ev (fun n => f n a) r := by
 constructor
 ·rintro ⟨K, hk⟩
  obtain ⟨J, hj⟩ := h
  refine ⟨K + J, fun k hk' => ?_⟩
  have := hk k (by omega)
  simp only [hj k (by omega), Option.bind_some] at this
  exact this
 ·exact Ev.bind h

theorem Ev.ite_iff {α : Type} {c : Prop} [Decidable c] {a b : Nat → Option α} {r : α} : Ev (fun k => if c then a k else b k) r ↔ if c then Ev a r else Ev b r := by
 by_cases h : c <;> simp [h]

theorem rd_lt (l : List Int) (i : Nat) (h : i < l.length) : rd l (i : Int) = l[i] := by simp [rd, h]

theorem w64_succ (i : Nat) (h : i < 9223372036854775807) : wrap64 ((i : Int) + 1) = ((i + 1 : Nat) : Int) := by rw [w64] <;> omega

theorem down (n : Nat) (P : Nat → Prop) (h0 : P n) (h1 : ∀ i, i < n → P (i + 1) → P i) : ∀ i, i ≤ n → P i := by
  intro i hi
  obtain ⟨d, hd⟩ : ∃ d, d = n - i := ⟨_, rfl⟩
  induction d generalizing i with
  | zero => obtain rfl : i = n := by omega
            exact h0
  | succ d ih => exact h1 i (by omega) (ih (i + 1) (by omega) (by omega))

theorem dropc (l : List Int) (i : Nat) (h : i < l.length) : ∃ a s, l.drop i = a :: s ∧ l.drop (i + 1) = s ∧ rd l i = a ∧ l[i] = a :=
 ⟨l[i], l.drop (i + 1), List.drop_eq_getElem_cons h, rfl, rd_lt l i h, rfl⟩

theorem l1Has_ev (l : List Int) (a : Int) (hl : l.length ≤ 9223372036854775807) : Ev (fun k => spec_l1Has.f k l a) (decide (a ∈ l)) := by
 have H := down l.length (fun i => Ev (fun k => spec_l1Has.l0 k l a i) (decide (a ∈ l.drop i))) ?_ ?_ 0 (by omega)
 ·simpa [spec_l1Has.f] using H
 ·show Ev _ _
  rw [Ev.iff_succ]
  simp [spec_l1Has.l0, Ev.now_iff]
 ·intro i hi ih
  show Ev _ _
  rw [Ev.iff_succ]
  have h1 : (i : Int) < l.length := by omega
  have h2 : (0 : Int) ≤ i := by omega
  simp only [spec_l1Has.l0, Ev.ite_iff, h1, h2, ↓reduceIte, w64_succ i (by omega), Ev.now_iff, rd_lt l i hi, List.drop_eq_getElem_cons hi, List.mem_cons]
  split
  ·rename_i h;simp [h]
  ·rename_i h;simpa [show ¬ a = l[i] from fun e => h e.symm] using ih

theorem within_eq (a b c : Int) : impl_within.f a b c = some (decide (b ≤ a ∧ a ≤ c)) := by
 unfold impl_within.f
 by_cases h : a ≥ b
 ·rw [if_pos h];simp;omega
 ·rw [if_neg h];simp;omega

def ascB : Option Int → List Int → Bool
 | _, [] => true
 | p, a :: s => p.all (fun q => decide (q < a)) && ascB (some a) s

def allIn (lo hi : Int) (l : List Int) : Bool := l.all fun a => decide (lo ≤ a ∧ a ≤ hi)

theorem i64_wrap_id (n : Int) (h0 : 0 ≤ n) (h1 : n < 2 ^ 62) : IntKind.i64.wrap n = n := by rw [IntKind.wrap_i64]; omega

theorem gor (a b : Nat) (ha : a < 2 ^ 62) (hb : b < 2 ^ 62) : Go.bits .or .i64 (a : Int) (b : Int) = ((a ||| b : Nat) : Int) :=
 (bits_nat .i64 62 (by decide) i64_wrap_id a b ha hb).2

theorem gand (a b : Nat) (ha : a < 2 ^ 62) (hb : b < 2 ^ 62) : Go.bits .and .i64 (a : Int) (b : Int) = ((a &&& b : Nat) : Int) :=
 (bits_nat .i64 62 (by decide) i64_wrap_id a b ha hb).1

def mk : Nat → (Nat → Bool) → Nat
 | 0, _ => 0
 | n + 1, p => mk n p ||| (if p n then 2 ^ n else 0)

theorem mk_bit (n : Nat) (p : Nat → Bool) (i : Nat) : (mk n p).testBit i = (decide (i < n) && p i) := by
 induction n with
 | zero => simp [mk]
 | succ n ih =>
  simp only [mk, Nat.testBit_or, ih]
  by_cases h : i = n
  ·subst h
   cases hp : p i <;> simp
  ·have e : (if p n = true then 2 ^ n else 0).testBit i = false := by
    split
    ·rw [Nat.testBit_two_pow];simp;omega
    ·simp
   rw [e, Bool.or_false]
   by_cases h2 : i < n
   ·simp [h2, show i < n + 1 by omega]
   ·simp [h2, show ¬ i < n + 1 by omega]

theorem bit_lt {n m i : Nat} (h : m < 2 ^ n) (hi : n ≤ i) : m.testBit i = false := Nat.testBit_lt_two_pow (Nat.lt_of_lt_of_le h (Nat.pow_le_pow_right (by decide) hi))

theorem lt_of_bits {n m : Nat} (h : ∀ i, n ≤ i → m.testBit i = false) : m < 2 ^ n := Nat.lt_pow_two_of_testBit m h

theorem mk_lt (n : Nat) (p : Nat → Bool) : mk n p < 2 ^ n := lt_of_bits fun i hi => by rw [mk_bit]; simp; omega

theorem mask_ext {n a b : Nat} (ha : a < 2 ^ n) (hb : b < 2 ^ n) (h : ∀ i, i < n → a.testBit i = b.testBit i) : a = b := by
 apply Nat.eq_of_testBit_eq
 intro i
 by_cases hi : i < n
 ·exact h i hi
 ·rw [bit_lt ha (by omega), bit_lt hb (by omega)]

theorem p8 {n : Nat} (h : n ≤ 8) : 2 ^ n ≤ 256 := Nat.pow_le_pow_right (by decide) h

def bl (n m : Nat) : List Int := ((List.range n).filter (fun x => m.testBit x)).map (fun x => Int.ofNat x)

theorem mem_bl {n m : Nat} {x : Int} : x ∈ bl n m ↔ ∃ i, i < n ∧ m.testBit i = true ∧ x = (i : Int) := by
 simp only [bl, List.mem_map, List.mem_filter, List.mem_range]
 constructor
 ·rintro ⟨i, ⟨h1, h2⟩, rfl⟩;exact ⟨i, h1, h2, rfl⟩
 ·rintro ⟨i, h1, h2, rfl⟩;exact ⟨i, ⟨h1, h2⟩, rfl⟩

theorem mem_bl_nat {n m i : Nat} : (i : Int) ∈ bl n m ↔ i < n ∧ m.testBit i = true := by
 rw [mem_bl]
 constructor
 ·rintro ⟨j, h1, h2, h3⟩;have : i = j := by omega
  subst this;exact ⟨h1, h2⟩
 ·rintro ⟨h1, h2⟩;exact ⟨i, h1, h2, rfl⟩

theorem bl_len_le (n m : Nat) : (bl n m).length ≤ n := by
 simp only [bl, List.length_map]
 exact Nat.le_trans (List.length_filter_le _ _) (by simp)

def mL : List Int → Nat
 | [] => 0
 | x :: s => 2 ^ x.toNat ||| mL s

theorem mL_bit {l : List Int} (h : ∀ x ∈ l, 0 ≤ x) (i : Nat) : (mL l).testBit i = decide ((i : Int) ∈ l) := by
 induction l with
 | nil => simp [mL]
 | cons x s ih =>
  have hx := h x (by simp)
  simp only [mL, Nat.testBit_or, ih (fun y hy => h y (by simp [hy])), Nat.testBit_two_pow]
  by_cases e : (i : Int) = x
  ·subst e;simp
  ·have : ¬ x.toNat = i := by omega
   simp [this, e]

theorem mL_lt {n : Nat} {l : List Int} (h : ∀ x ∈ l, 0 ≤ x ∧ x < n) : mL l < 2 ^ n := lt_of_bits fun i hi => by
 rw [mL_bit (fun x hx => (h x hx).1)]
 simp only [decide_eq_false_iff_not]
 intro hm
 have := h _ hm
 omega

theorem asc_lt : ∀ {l : List Int} {a : Int}, ascB (some a) l = true → ∀ x ∈ l, a < x
 | [], _, _, x, hx => by cases hx
 | b :: l, a, h, x, hx => by
  simp only [ascB, Option.all_some, Bool.and_eq_true, decide_eq_true_eq] at h
  rcases List.mem_cons.1 hx with rfl | hx
  ·exact h.1
  ·have := asc_lt h.2 x hx
   omega

theorem asc_tail {l : List Int} {p : Option Int} {a : Int} (h : ascB p (a :: l) = true) : ascB (some a) l = true := by
 simp only [ascB, Bool.and_eq_true] at h
 exact h.2

theorem asc_ext : ∀ {l k : List Int} {p q : Option Int}, ascB p l = true → ascB q k = true → (∀ x, x ∈ l ↔ x ∈ k) → l = k
 | [], [], _, _, _, _, _ => rfl
 | [], b :: k, _, _, _, _, h => by have := (h b).2 (by simp);cases this
 | a :: l, [], _, _, _, _, h => by have := (h a).1 (by simp);cases this
 | a :: l, b :: k, p, q, hl, hk, h => by
  have h1 := asc_lt (asc_tail hl)
  have h2 := asc_lt (asc_tail hk)
  have hab : a = b := by
   have ha := (h a).1 (by simp)
   have hb := (h b).2 (by simp)
   rcases List.mem_cons.1 ha with e | ha
   ·exact e
   ·rcases List.mem_cons.1 hb with e | hb
    ·exact e.symm
    ·have := h1 b hb;have := h2 a ha;omega
  subst hab
  rw [asc_ext (asc_tail hl) (asc_tail hk) (fun x => ?_)]
  constructor
  ·intro hx
   rcases List.mem_cons.1 ((h x).1 (by simp [hx])) with e | hx'
   ·have := h1 x hx;omega
   ·exact hx'
  ·intro hx
   rcases List.mem_cons.1 ((h x).2 (by simp [hx])) with e | hx'
   ·have := h2 x hx;omega
   ·exact hx'

theorem asc_of_pairwise : ∀ {l : List Int} {p : Option Int}, l.Pairwise (· < ·) → (∀ q, p = some q → ∀ x ∈ l, q < x) → ascB p l = true
 | [], _, _, _ => rfl
 | a :: l, p, h, hp => by
  rw [List.pairwise_cons] at h
  simp only [ascB, Bool.and_eq_true]
  refine ⟨?_, asc_of_pairwise h.2 (fun q hq x hx => ?_)⟩
  ·cases p with
   | none => rfl
   | some q => simp only [Option.all_some, decide_eq_true_eq];exact hp q rfl a (by simp)
  ·cases hq;exact h.1 x hx

theorem bl_pairwise (n m : Nat) : (bl n m).Pairwise (· < ·) := by
 unfold bl
 rw [List.pairwise_map]
 exact (List.pairwise_lt_range.filter _).imp (fun h => by simpa using h)

theorem bl_asc (n m : Nat) : ascB none (bl n m) = true := asc_of_pairwise (bl_pairwise n m) (fun q hq => by cases hq)

theorem bl_of_asc {n : Nat} {l : List Int} (h1 : allIn 0 ((n : Int) - 1) l = true) (h2 : ascB none l = true) : l = bl n (mL l) := by
 have h3 : ∀ x ∈ l, 0 ≤ x ∧ x < n := fun x hx => by
  simp only [allIn, List.all_eq_true, decide_eq_true_eq] at h1
  have := h1 x hx
  omega
 refine asc_ext h2 (bl_asc n _) (fun x => ?_)
 rw [mem_bl]
 constructor
 ·intro hx
  have := h3 x hx
  refine ⟨x.toNat, by omega, ?_, by omega⟩
  rw [mL_bit (fun y hy => (h3 y hy).1)]
  simp only [decide_eq_true_eq]
  rwa [show ((x.toNat : Nat) : Int) = x by omega]
 ·rintro ⟨i, hi, hb, rfl⟩
  rw [mL_bit (fun y hy => (h3 y hy).1)] at hb
  simpa using hb

theorem mL_bl {n m : Nat} (h : m < 2 ^ n) : mL (bl n m) = m := by
 have h0 : ∀ x ∈ bl n m, 0 ≤ x ∧ x < n := fun x hx => by obtain ⟨i, h1, _, rfl⟩ := mem_bl.1 hx;omega
 refine mask_ext (mL_lt h0) h (fun i hi => ?_)
 rw [mL_bit (fun x hx => (h0 x hx).1)]
 by_cases c : m.testBit i = true
 ·simp [mem_bl_nat, hi, c]
 ·have : ¬ (i : Int) ∈ bl n m := by rw [mem_bl_nat];simp [c]
  simp [this, Bool.eq_false_iff.2 c]

def near (es : List S78) (a b : Int) : Bool := es.any fun e => decide (e.f0 = a ∧ e.f1 = b ∨ e.f0 = b ∧ e.f1 = a)

def nb (es : List S78) (n x : Nat) : Nat := mk n (fun y => near es x y)

theorem nb_lt (es : List S78) (n x : Nat) : nb es n x < 2 ^ n := mk_lt _ _

theorem nb_bit (es : List S78) (n x y : Nat) : (nb es n x).testBit y = (decide (y < n) && near es x y) := mk_bit _ _ _

theorem dropE (es : List S78) (i : Nat) (h : i < es.length) : ∃ a s, es.drop i = a :: s ∧ es.drop (i + 1) = s ∧ rd_T78 es i = a ∧ es[i] = a :=
 ⟨es[i], es.drop (i + 1), List.drop_eq_getElem_cons h, rfl, by simp [rd_T78, h], rfl⟩

theorem l2Near_ev (n : Int) (es : List S78) (a b : Int) (hl : es.length ≤ 9223372036854775807) : Ev (fun k => spec_l2Near.f k n es a b) (near es a b) := by
 have H := down es.length (fun i => Ev (fun k => spec_l2Near.l0 k a b i n es) (near (es.drop i) a b)) ?_ ?_ 0 (by omega)
 ·simpa [spec_l2Near.f] using H
 ·show Ev _ _
  rw [Ev.iff_succ]
  simp [spec_l2Near.l0, Ev.now_iff, near]
 ·intro i hi ih
  show Ev _ _
  rw [Ev.iff_succ]
  have h1 : (i : Int) < es.length := by omega
  have h2 : (0 : Int) ≤ i := by omega
  obtain ⟨e, s, e1, e2, e3, e4⟩ := dropE es i hi
  rw [e1];rw [e2] at ih
  simp only [spec_l2Near.l0, Ev.ite_iff, h1, h2, ↓reduceIte, w64_succ i (by omega), Ev.now_iff, Ev.none_iff, e3]
  by_cases h : e.f0 = a ∧ e.f1 = b ∨ e.f0 = b ∧ e.f1 = a
  ·have hn : near (e :: s) a b = true := by simp only [near, List.any_cons, h, decide_true, Bool.true_or]
   rw [hn]
   split
   ·split
    ·rfl
    ·split
     ·split
      ·rfl
      ·omega
     ·omega
   ·split
    ·split
     ·rfl
     ·omega
    ·omega
  ·have hn : near (e :: s) a b = near s a b := by simp only [near, List.any_cons, h, decide_false, Bool.false_or]
   rw [hn]
   split
   ·split
    ·omega
    ·split
     ·split
      ·omega
      ·exact ih
     ·exact ih
   ·split
    ·split
     ·omega
     ·exact ih
    ·exact ih

theorem filter_range_succ (n : Nat) (p : Nat → Bool) : ((List.range (n + 1)).filter p) = (List.range n).filter p ++ (if p n then [n] else []) := by
 rw [List.range_succ, List.filter_append];congr 1;simp [List.filter_cons]

theorem bl_step {n m i : Nat} (hi : i < n) : bl (i + 1) m = bl i m ++ (if m.testBit i then [(i : Int)] else []) := by
 unfold bl
 rw [filter_range_succ]
 split <;> simp_all

def netW (n : Nat) (q : Nat → Nat → Bool) : List Int := (List.range n).map (fun x => Int.ofNat (mk n (q x)))

theorem netW_rd {n : Nat} {q : Nat → Nat → Bool} {i : Nat} (h : i < n) : rd (netW n q) i = (mk n (q i) : Nat) := by simp [rd, netW, h]

theorem netW_set {n : Nat} {q : Nat → Nat → Bool} {i : Nat} {p : Nat → Bool} (_ : i < n) : (netW n q).set i (Int.ofNat (mk n p)) = netW n (fun x => if x = i then p else q x) := by
 apply List.ext_getElem
 ·simp [netW]
 ·intro j h1 h2
  simp only [List.getElem_set, netW, List.getElem_map, List.getElem_range]
  by_cases e : i = j
  ·subst e;simp
  ·simp [e, show ¬ j = i from fun h => e h.symm]

theorem shl_one {j : Nat} (h : j < 62) : shl .i64 1 (j : Int) = ((2 ^ j : Nat) : Int) := by
 unfold shl
 have hb : IntKind.bits .i64 = 64 := rfl
 have h1 : (2 : Nat) ^ j < 2 ^ 62 := Nat.pow_lt_pow_right (by decide) h
 rw [Int.toNat_natCast, hb, Nat.min_eq_left (by omega), Int.one_mul, i64_wrap_id]
 ·simp
 ·exact Int.pow_nonneg (by decide)
 ·exact_mod_cast h1

theorem mk_or_pow {n : Nat} {p : Nat → Bool} {j : Nat} (h : j < n) : mk n p ||| 2 ^ j = mk n (fun y => p y || y == j) := by
 refine mask_ext (n := n) (Nat.or_lt_two_pow (mk_lt _ _) (Nat.pow_lt_pow_right (by decide) h)) (mk_lt _ _) (fun i hi => ?_)
 rw [Nat.testBit_or, mk_bit, mk_bit, Nat.testBit_two_pow]
 by_cases e : j = i
 ·subst e;simp [hi]
 ·simp [hi, e, show ¬ i = j from fun h => e h.symm]

theorem mk_lt62 {n : Nat} (p : Nat → Bool) (hn : n ≤ 8) : mk n p < 2 ^ 62 := Nat.lt_of_lt_of_le (mk_lt n p) (Nat.pow_le_pow_right (by decide) (by omega))

theorem netStep_W {n : Nat} {q : Nat → Nat → Bool} {e : S78} (hn : n ≤ 8) (he : edgeOk n e = true) :
  netStep (netW n q) e = netW n (fun x y => q x y || decide (e.f0 = (x : Int) ∧ e.f1 = (y : Int) ∨ e.f0 = (y : Int) ∧ e.f1 = (x : Int))) := by
 simp only [edgeOk, decide_eq_true_eq] at he
 obtain ⟨a, b⟩ := e
 simp only at he
 obtain ⟨i, rfl⟩ : ∃ i : Nat, a = i := ⟨a.toNat, by omega⟩
 obtain ⟨j, rfl⟩ : ∃ j : Nat, b = j := ⟨b.toNat, by omega⟩
 have hi : i < n := by omega
 have hj : j < n := by omega
 have hp : ∀ {k : Nat}, k < n → 2 ^ k < 2 ^ 62 := fun h => Nat.pow_lt_pow_right (by decide) (by omega)
 simp only [netStep, Int.toNat_natCast]
 rw [netW_rd hi, shl_one (by omega), gor _ _ (mk_lt62 _ hn) (hp hj), mk_or_pow hj]
 rw [show ((mk n fun y => q i y || y == j : Nat) : Int) = Int.ofNat (mk n fun y => q i y || y == j) from rfl, netW_set hi]
 rw [netW_rd hj, shl_one (by omega), gor _ _ (mk_lt62 _ hn) (hp hi), mk_or_pow hi]
 rw [show ∀ z : Nat, (z : Int) = Int.ofNat z from fun _ => rfl, netW_set hj]
 congr 1
 funext x y
 have hij : i ≠ j := by omega
 rw [Bool.eq_iff_iff]
 by_cases e1 : x = j
 ·subst e1
  rw [if_pos rfl, if_neg (Ne.symm hij)]
  simp only [Bool.or_eq_true, beq_iff_eq, decide_eq_true_eq, and_true, true_and]
  constructor
  ·rintro (h | h)
   ·exact .inl h
   ·right;omega
  ·rintro (h | h)
   ·exact .inl h
   ·right;omega
 ·rw [if_neg e1]
  by_cases e3 : x = i
  ·subst e3
   rw [if_pos rfl]
   simp only [Bool.or_eq_true, beq_iff_eq, decide_eq_true_eq, and_true, true_and]
   constructor
   ·rintro (h | h)
    ·exact .inl h
    ·right;omega
   ·rintro (h | h)
    ·exact .inl h
    ·right;omega
  ·rw [if_neg e3]
   simp only [Bool.or_eq_true, decide_eq_true_eq]
   constructor
   ·exact .inl
   ·rintro (h | h)
    ·exact h
    ·omega

theorem netW_fold {n : Nat} (hn : n ≤ 8) : ∀ (es : List S78) (q : Nat → Nat → Bool), (∀ e ∈ es, edgeOk n e = true) → es.foldl netStep (netW n q) = netW n (fun x y => q x y || near es x y)
 | [], q, _ => by simp [near]
 | e :: es, q, h => by
  rw [List.foldl_cons, netStep_W hn (h e (by simp)), netW_fold hn es _ (fun x hx => h x (by simp [hx]))]
  congr 1
  funext x y
  simp only [near, List.any_cons, Bool.or_assoc]

def nets (es : List S78) (n : Nat) : List Int := (List.range n).map (fun x => Int.ofNat (nb es n x))

theorem nets_len (es : List S78) (n : Nat) : (nets es n).length = n := by simp [nets]

theorem nets_rd {es : List S78} {n i : Nat} (h : i < n) : rd (nets es n) i = (nb es n i : Nat) := by simp [rd, nets, h]

def okG (n : Int) (es : List S78) : Bool := decide (0 ≤ n ∧ n ≤ 8) && goodL n none es

theorem netOf_eq {n : Nat} {es : List S78} (h : okG n es = true) : impl_netOf.f n es = some (nets es n) := by
 have h2 := h
 simp only [okG, Bool.and_eq_true, decide_eq_true_eq] at h2
 have hn : n ≤ 8 := by omega
 have hz : List.replicate n (0 : Int) = netW n (fun _ _ => false) := by
  apply List.ext_getElem
  ·simp [netW]
  ·intro i h1 h3
   have hm : mk n (fun _ => false) = 0 := mask_ext (n := n) (mk_lt _ _) (Nat.two_pow_pos n) (fun i _ => by rw [mk_bit];simp)
   simp [netW, hm]
 show (if okG n es = true then some (es.foldl netStep (List.replicate (n : Int).toNat 0)) else none) = _
 rw [if_pos h, Int.toNat_natCast, hz, netW_fold hn es _ (goodL_all h2.2)]
 simp [netW, nets, nb]

def mns (a b : Nat) : Nat := a ^^^ (a &&& b)

theorem mns_bit (a b i : Nat) : (mns a b).testBit i = (a.testBit i && !b.testBit i) := by
 unfold mns
 rw [Nat.testBit_xor, Nat.testBit_and]
 cases a.testBit i <;> cases b.testBit i <;> rfl

theorem mns_lt {n a : Nat} (b : Nat) (h : a < 2 ^ n) : mns a b < 2 ^ n := lt_of_bits fun i hi => by rw [mns_bit, bit_lt h hi]; rfl

theorem gandn (a b : Nat) (ha : a < 2 ^ 62) (hb : b < 2 ^ 62) : Go.bits .andNot .i64 (a : Int) (b : Int) = ((mns a b : Nat) : Int) := by
 have h1 : (BitVec.ofNat 64 a &&& ~~~ BitVec.ofNat 64 b).toNat = mns a b := by
  apply Nat.eq_of_testBit_eq
  intro i
  rw [BitVec.testBit_toNat, mns_bit, BitVec.getLsbD_and, BitVec.getLsbD_not, BitVec.getLsbD_ofNat, BitVec.getLsbD_ofNat]
  by_cases hi : i < 64
  ·simp [hi]
  ·have h62 : ∀ {c : Nat}, c < 2 ^ 62 → c.testBit i = false := fun h => bit_lt h (by omega)
   simp [hi, h62 ha]
 have h2 : mns a b < 2 ^ 62 := mns_lt b ha
 show IntKind.i64.wrap (((BitVec.ofInt 64 (a : Int) &&& ~~~ BitVec.ofInt 64 (b : Int)).toNat : Nat) : Int) = _
 rw [BitVec.ofInt_natCast, BitVec.ofInt_natCast, h1]
 exact i64_wrap_id _ (by omega) (by exact_mod_cast h2)

theorem lt62 {n m : Nat} (hn : n ≤ 8) (h : m < 2 ^ n) : m < 2 ^ 62 := Nat.lt_of_lt_of_le h (Nat.pow_le_pow_right (by decide) (by omega))

theorem bl_len_full : ∀ n, n ≤ 8 → ∀ m, m < 2 ^ n → ((bl n m).length = n ↔ m = 2 ^ n - 1) := by decide +kernel

theorem shr_nat (a x : Nat) (h : x < 62) : shr .i64 (a : Int) (x : Int) = ((a >>> x : Nat) : Int) := by
 unfold shr
 have hb : IntKind.bits .i64 = 64 := rfl
 rw [Int.toNat_natCast, hb, Nat.min_eq_left (by omega), Nat.shiftRight_eq_div_pow]
 simp

theorem shr_bit (a x : Nat) (ha : a < 2 ^ 62) (h : x < 62) : Go.bits .and .i64 (shr .i64 (a : Int) (x : Int)) 1 = if a.testBit x then 1 else 0 := by
 have h1 : a >>> x < 2 ^ 62 := Nat.lt_of_le_of_lt (Nat.shiftRight_le a x) ha
 rw [shr_nat a x h, show (1 : Int) = ((1 : Nat) : Int) from rfl, gand _ _ h1 (by decide)]
 simp only [Nat.testBit, bne_iff_ne, ne_eq]
 rw [Nat.and_comm 1, Nat.and_one_is_mod]
 have := Nat.mod_two_eq_zero_or_one (a >>> x)
 rcases this with h | h <;> simp [h]

theorem mask_all (n : Nat) (h : n ≤ 8) : wrap64 (shl .i64 1 (n : Int) - 1) = ((2 ^ n - 1 : Nat) : Int) := by
 rw [shl_one (by omega)]
 have h1 := p8 h
 have h2 : 0 < 2 ^ n := Nat.two_pow_pos n
 rw [w64 (by omega) (by omega)]
 omega

theorem l1Own_eq {l : List Int} (h : l.length < 17592186044416) : spec_l1Own.f l = some l := by simp [spec_l1Own.f, h]

theorem u64_wrap_id (m : Nat) (h : m < 2 ^ 62) : IntKind.u64.wrap (m : Int) = (m : Int) := by rw [IntKind.wrap_u64]; omega

theorem ones_small : ∀ n : Nat, n ≤ 8 → ∀ m : Nat, m < 2 ^ n → bits_OnesCount.f (m : Int) = some (((bl n m).length : Nat) : Int) := by decide +kernel

theorem ones_bl {n m : Nat} (hn : n ≤ 8) (hm : m < 2 ^ n) : bits_OnesCount.f (IntKind.u64.wrap (m : Int)) = some (((bl n m).length : Nat) : Int) := by
 rw [u64_wrap_id m (lt62 hn hm), ones_small n hn m hm]

theorem set_fill {α : Type} (l : List α) (z : α) (i : Nat) (h : i < l.length) : (l.take i ++ List.replicate (l.length - i) z).set i l[i] = l.take (i + 1) ++ List.replicate (l.length - (i + 1)) z := by
 rw [List.take_succ_eq_append_getElem h, show l.length - i = (l.length - (i + 1)) + 1 by omega, List.replicate_succ]
 have h1 : (l.take i).length = i := by rw [List.length_take];omega
 rw [List.set_append_right _ _ (by omega), h1, Nat.sub_self, List.set_cons_zero, List.append_assoc]
 rfl

theorem toIntA2_eq (a b : Int) : laws_toIntA2.f a b = some (a, b) := rfl

theorem toIntA2S_ev (l : List S78) (hl : l.length ≤ 17592186044416) : Ev (fun k => laws_toIntA2S.f k l) l := by
 unfold laws_toIntA2S.f
 rw [Ev.ite_iff, if_pos (by omega), Ev.ite_iff, if_pos (by omega), Int.toNat_natCast]
 have H := down l.length (fun i => Ev (fun k => laws_toIntA2S.l0 k l (l.take i ++ List.replicate (l.length - i) z78) i) l) ?_ ?_ 0 (by omega)
 ·simpa using H
 ·show Ev _ _
  rw [Ev.iff_succ]
  simp [laws_toIntA2S.l0, Ev.now_iff]
 ·intro i hi ih
  show Ev _ _
  rw [Ev.iff_succ]
  have h1 : (i : Int) < l.length := by omega
  have h2 : (0 : Int) ≤ i := by omega
  have h3 : (i : Int) < ((l.take i ++ List.replicate (l.length - i) z78).length : Int) := by
   rw [List.length_append, List.length_take, List.length_replicate];omega
  have h4 : rd_T78 l i = l[i] := by simp [rd_T78, hi]
  simp only [laws_toIntA2S.l0, Ev.ite_iff, h1, h2, ↓reduceIte, toIntA2_eq, Option.bind_some, h3, w64_succ i (by omega), h4, Int.toNat_natCast]
  rw [set_fill l _ i hi]
  exact ih

theorem toGraph_ev (n : Int) (es : List S78) (hl : es.length ≤ 17592186044416) : Ev (fun k => laws_toGraph.f k n es) (n, es) := by
 unfold laws_toGraph.f
 rw [Ev.bind_iff (toIntA2S_ev es hl), Ev.now_iff]

theorem eqIntS_refl (l : List Int) (hl : l.length ≤ 9223372036854775807) : Ev (fun k => laws_eqIntS.f k l l) true := by
 unfold laws_eqIntS.f
 rw [Ev.ite_iff, if_pos rfl]
 have H := down l.length (fun i => Ev (fun k => laws_eqIntS.l0 k l l i) true) ?_ ?_ 0 (by omega)
 ·simpa using H
 ·show Ev _ _
  rw [Ev.iff_succ]
  simp [laws_eqIntS.l0, Ev.now_iff]
 ·intro i hi ih
  show Ev _ _
  rw [Ev.iff_succ]
  have h1 : (i : Int) < l.length := by omega
  have h2 : (0 : Int) ≤ i := by omega
  simp only [laws_eqIntS.l0, Ev.ite_iff, h1, h2, ↓reduceIte, w64_succ i (by omega)]
  exact ih

theorem eqIntA2_refl (a b : Int) : laws_eqIntA2.f a b a b = some true := by simp [laws_eqIntA2.f]

theorem eqGraph_refl (n : Int) (es : List S78) (hl : es.length ≤ 9223372036854775807) : Ev (fun k => laws_eqGraph.f k n es n es) true := by
 have H0 : Ev (fun k => laws_eqIntA2S.f k es es) true := by
  unfold laws_eqIntA2S.f
  rw [Ev.ite_iff, if_pos rfl]
  have H := down es.length (fun i => Ev (fun k => laws_eqIntA2S.l0 k es es i) true) ?_ ?_ 0 (by omega)
  ·simpa using H
  ·show Ev _ _
   rw [Ev.iff_succ]
   simp [laws_eqIntA2S.l0, Ev.now_iff]
  ·intro i hi ih
   show Ev _ _
   rw [Ev.iff_succ]
   have h1 : (i : Int) < es.length := by omega
   have h2 : (0 : Int) ≤ i := by omega
   simp only [laws_eqIntA2S.l0, Ev.ite_iff, h1, h2, ↓reduceIte, w64_succ i (by omega), eqIntA2_refl, Option.bind_some]
   exact ih
 unfold laws_eqGraph.f
 rw [Ev.ite_iff, if_pos rfl, Ev.bind_iff H0, Ev.ite_iff, if_pos rfl, Ev.now_iff]

theorem szGraph_eq (n : Int) (es : List S78) (hl : es.length ≤ 9223372036854775807) : laws_szGraph.f n es 1048576 = some (if es.length ≤ 1048576 then 1048576 - (es.length : Int) else -1) := by
 unfold laws_szGraph.f laws_szIntA2S.f
 rw [w64 (by omega) (by omega)]
 by_cases h : es.length ≤ 1048576
 ·rw [if_neg (by omega), if_pos h, Option.bind_some, if_neg (by omega)]
 ·rw [if_pos (by omega), if_neg h, Option.bind_some, if_pos (by omega)]

theorem l2Good_eq (n : Int) (es : List S78) : spec_l2Good.f n es = some (okG n es) := rfl

theorem IsGraph_eq (n : Int) (es : List S78) : impl_IsGraph.f n es = some (okG n es) := rfl

theorem maskOf_ev (l : List Int) (hl : l.length ≤ 9223372036854775807) (h : ∀ x ∈ l, 0 ≤ x ∧ x < 8) : Ev (fun k => impl_maskOf.f k l) ((mL l : Nat) : Int) := by
 have hm : ∀ s : List Int, (∀ x ∈ s, 0 ≤ x ∧ x < 8) → mL s < 2 ^ 8 := fun s hs => mL_lt (n := 8) hs
 have H := down l.length (fun i => ∀ acc : Nat, acc < 2 ^ 8 → Ev (fun k => impl_maskOf.l0 k acc l l.length i) ((acc ||| mL (l.drop i) : Nat) : Int)) ?_ ?_ 0 (by omega) 0 (by decide)
 ·simpa [impl_maskOf.f] using H
 ·intro acc _
  rw [Ev.iff_succ]
  simp [impl_maskOf.l0, Ev.now_iff, mL]
 ·intro i hi ih acc ha
  rw [Ev.iff_succ]
  have h1 : (i : Int) < l.length := by omega
  have h2 : (0 : Int) ≤ i := by omega
  have hx := h l[i] (List.getElem_mem hi)
  obtain ⟨a, s, e1, e2, e3, e4⟩ := dropc l i hi
  rw [e4] at hx
  obtain ⟨x, rfl⟩ : ∃ x : Nat, a = x := ⟨a.toNat, by omega⟩
  have hp : 2 ^ x < 2 ^ 8 := Nat.pow_lt_pow_right (by decide) (by omega)
  have h62 : ∀ {c : Nat}, c < 2 ^ 8 → c < 2 ^ 62 := fun h => by omega
  simp only [impl_maskOf.l0, Ev.ite_iff, h1, h2, hx.1, ↓reduceIte, w64_succ i (by omega), e3]
  rw [shl_one (by omega), gor _ _ (h62 ha) (h62 hp)]
  have := ih (acc ||| 2 ^ x) (Nat.or_lt_two_pow ha hp)
  rw [e2] at this
  rw [e1, mL, Int.toNat_natCast, ← Nat.or_assoc]
  exact this

def upF (a : Int) (c : Nat) : List Int := (List.range c).map (fun i : Nat => a + (i : Int))

theorem upF_len (a : Int) (c : Nat) : (upF a c).length = c := by simp [upF]

theorem upF_succ (a : Int) (c : Nat) : upF a (c + 1) = upF a c ++ [a + (c : Int)] := by simp [upF, List.range_succ]

theorem upF_rd {a : Int} {c i : Nat} (h : i < c) : rd (upF a c) i = a + (i : Int) := by rw [rd_lt _ i (by rw [upF_len]; exact h)]; simp [upF]

theorem markIntS_ev (l : List Int) (a : Int) (ha : 0 ≤ a) (h : a + l.length < 9223372036854775807) : Ev (fun k => laws_markIntS.f k l a) (a + (l.length : Int), upF a l.length) := by
 have H := down l.length (fun i => Ev (fun k => laws_markIntS.l0 k (upF a i ++ l.drop i) (a + (i : Int)) i) (a + (l.length : Int), upF a l.length)) ?_ ?_ 0 (by omega)
 ·simpa [laws_markIntS.f, upF] using H
 ·show Ev _ _
  rw [Ev.iff_succ]
  simp [laws_markIntS.l0, Ev.now_iff, upF_len]
 ·intro i hi ih
  show Ev _ _
  rw [Ev.iff_succ]
  have h0 : ((upF a i ++ l.drop i).length : Int) = l.length := by rw [List.length_append, upF_len, List.length_drop];omega
  have h1 : (i : Int) < l.length := by omega
  have h2 : (0 : Int) ≤ i := by omega
  have h3 : (upF a i ++ l.drop i).set i (a + (i : Int)) = upF a (i + 1) ++ l.drop (i + 1) := by
   rw [List.drop_eq_getElem_cons hi, List.set_append_right _ _ (by rw [upF_len];omega), upF_len, Nat.sub_self, List.set_cons_zero, upF_succ, List.append_assoc];rfl
  have h4 : wrap64 (a + (i : Int) + 1) = a + ((i + 1 : Nat) : Int) := by rw [w64] <;> omega
  simp only [laws_markIntS.l0, Ev.ite_iff, h0, h1, h2, ↓reduceIte, w64_succ i (by omega), Int.toNat_natCast, h3, h4]
  exact ih

theorem heldIntS_ev (a : Int) (c : Nat) (ha : 0 ≤ a) (h : a + c < 9223372036854775807) : Ev (fun k => laws_heldIntS.f k (upF a c) a) (a + (c : Int)) := by
 have H := down c (fun i => Ev (fun k => laws_heldIntS.l0 k (upF a c) (a + (i : Int)) i) (a + (c : Int))) ?_ ?_ 0 (by omega)
 ·simpa [laws_heldIntS.f] using H
 ·show Ev _ _
  rw [Ev.iff_succ]
  simp [laws_heldIntS.l0, Ev.now_iff, upF_len]
 ·intro i hi ih
  show Ev _ _
  rw [Ev.iff_succ]
  have h1 : (i : Int) < (c : Int) := by omega
  have h2 : (0 : Int) ≤ i := by omega
  have h4 : wrap64 (a + (i : Int) + 1) = a + ((i + 1 : Nat) : Int) := by rw [w64] <;> omega
  simp only [laws_heldIntS.l0, Ev.ite_iff, upF_len, h1, h2, ↓reduceIte, w64_succ i (by omega), upF_rd hi, h4]
  exact ih

theorem markIntA2S_l0 (M : Int) (hM : M = 9223372036854775807) (d : Nat) : ∀ (l : List S78) (a : Int) (i : Nat), l.length = i + d → (l.length : Int) < M → 0 ≤ a → a + 2 * (d : Int) < M → ∃ r, laws_markIntA2S.l0 (d + 1) l a i = some (a + 2 * (d : Int), r) := by
 induction d with
 | zero =>
  intro l a i h _ _ _
  refine ⟨l, ?_⟩
  rw [laws_markIntA2S.l0, if_neg (by omega)]
  simp
 | succ d ih =>
  intro l a i h hl h0 h1
  have e1 : wrap64 (a + 1) = a + 1 := by rw [w64] <;> omega
  have e2 : wrap64 (a + 1 + 1) = a + 1 + 1 := by rw [w64] <;> omega
  have e3 : (i : Int) < (l.length : Int) := by omega
  have e4 : (0 : Int) ≤ i := by omega
  rw [laws_markIntA2S.l0, if_pos e3, if_pos e4, e1, e2, w64_succ i (by omega)]
  obtain ⟨r, hr⟩ := ih (l.set (i : Int).toNat ⟨a, a + 1⟩) (a + 1 + 1) (i + 1) (by rw [List.length_set];omega) (by rw [List.length_set];exact hl) (by omega) (by omega)
  exact ⟨r, by rw [hr];congr 2;omega⟩

theorem markGraph_eq (n : Int) (l : List S78) (a : Int) (ha : 0 ≤ a) (h : a + 2 * (l.length : Int) < 9223372036854775807) : ∃ r, laws_markGraph.f n l a = some (a + 2 * (l.length : Int), r) := by
 obtain ⟨r, hr⟩ := markIntA2S_l0 _ rfl l.length l a 0 (by omega) (by omega) ha h
 exact ⟨r, by simp only [laws_markGraph.f, laws_markIntA2S.f];rw [show ((0 : Nat) : Int) = 0 from rfl] at hr;rw [hr];rfl⟩

theorem setOf_ev (n m : Nat) (hn : n ≤ 8) (hm : m < 2 ^ n) : Ev (fun k => impl_setOf.f k m) (bl n m) := by
 obtain ⟨t, ht⟩ : ∃ t, t = 9 := ⟨_, rfl⟩
 have hs : ∀ i, n ≤ i → m >>> i = 0 := fun i hi => by
  rw [Nat.shiftRight_eq_div_pow];exact Nat.div_eq_of_lt (Nat.lt_of_lt_of_le hm (Nat.pow_le_pow_right (by decide) hi))
 have H := down n (fun i => Ev (fun k => impl_setOf.l0 k m (bl i m) i) (bl n m)) ?_ ?_ 0 (by omega)
 ·simpa [impl_setOf.f, bl] using H
 ·show Ev _ _
  rw [Ev.iff_succ]
  have h2 : (0 : Int) ≤ n := by omega
  simp [impl_setOf.l0, Ev.now_iff, h2, shr_nat m n (by omega), hs n (Nat.le_refl _)]
 ·intro i hi ih
  show Ev _ _
  rw [Ev.iff_succ]
  have h2 : (0 : Int) ≤ i := by omega
  have h3 := bl_len_le i m
  have h4 : (bl i m).length < 17592186044416 := by omega
  have e3 := shr_bit m i (lt62 hn hm) (by omega)
  rw [bl_step hi] at ih
  simp only [impl_setOf.l0, Ev.ite_iff, h2, h4, ↓reduceIte, w64_succ i (by omega), e3]
  by_cases c : shr .i64 (m : Int) (i : Int) = 0
  ·rw [if_pos c, Ev.now_iff]
   rw [shr_nat m i (by omega)] at c
   have c' : m >>> i = 0 := by omega
   have hb : ∀ j, i ≤ j → m.testBit j = false := fun j hj => by
    have : (m >>> i).testBit (j - i) = false := by rw [c'];simp
    rw [Nat.testBit_shiftRight] at this
    rwa [show i + (j - i) = j by omega] at this
   refine asc_ext (bl_asc _ _) (bl_asc _ _) (fun x => ?_)
   rw [mem_bl, mem_bl]
   constructor
   ·rintro ⟨j, h1, h2, rfl⟩;exact ⟨j, by omega, h2, rfl⟩
   ·rintro ⟨j, h1, h2, rfl⟩
    refine ⟨j, ?_, h2, rfl⟩
    by_cases hj : i ≤ j
    ·rw [hb j hj] at h2;cases h2
    ·omega
  ·rw [if_neg c]
   cases c2 : m.testBit i
   ·rw [c2] at ih;simpa using ih
   ·rw [c2] at ih;simpa using ih

theorem l2Bits_ev (n m : Nat) (hn : n ≤ 8) (hm : m < 2 ^ n) : Ev (fun k => spec_l2Bits.f k n m) (bl n m) := by
 have H := down n (fun i => Ev (fun k => spec_l2Bits.l0 k n m (bl i m) i) (bl n m)) ?_ ?_ 0 (by omega)
 ·simpa [spec_l2Bits.f, bl] using H
 ·show Ev _ _
  rw [Ev.iff_succ]
  simp [spec_l2Bits.l0, Ev.now_iff]
 ·intro i hi ih
  show Ev _ _
  rw [Ev.iff_succ]
  have h1 : (i : Int) < (n : Int) := by omega
  have h2 : (0 : Int) ≤ i := by omega
  have h3 := bl_len_le i m
  have h4 : (bl i m).length < 17592186044416 := by omega
  have e3 := shr_bit m i (lt62 hn hm) (by omega)
  rw [bl_step hi] at ih
  simp only [spec_l2Bits.l0, Ev.ite_iff, h1, h2, h4, ↓reduceIte, w64_succ i (by omega), e3]
  cases c : m.testBit i
  ·rw [c] at ih;simpa using ih
  ·rw [c] at ih;simpa using ih

def rowF (n : Nat) (f : Nat → Int) : List Int := (List.range n).map f

theorem rowF_len (n : Nat) (f : Nat → Int) : (rowF n f).length = n := by simp [rowF]

theorem rowF_rd {n : Nat} {f : Nat → Int} {i : Nat} (h : i < n) : rd (rowF n f) i = f i := by simp [rd, rowF, h]

theorem rowF_set {n : Nat} {f : Nat → Int} {i : Nat} {v : Int} (_ : i < n) : (rowF n f).set i v = rowF n (fun x => if x = i then v else f x) := by
 apply List.ext_getElem
 ·simp [rowF]
 ·intro j h1 h2
  simp only [List.getElem_set, rowF, List.getElem_map, List.getElem_range]
  by_cases e : i = j
  ·subst e;simp
  ·simp [e, show ¬ j = i from fun h => e h.symm]

theorem rowF_ext {n : Nat} {f g : Nat → Int} (h : ∀ x, x < n → f x = g x) : rowF n f = rowF n g := by
 unfold rowF
 exact List.map_congr_left (fun x hx => h x (List.mem_range.1 hx))

theorem l1Most_eq (a b : Int) : spec_l1Most.f a b = some (if a > b then a else b) := by unfold spec_l1Most.f; split <;> rfl

theorem okG_use {n : Int} {es : List S78} (h : okG n es = true) : ∃ N : Nat, n = N ∧ N ≤ 8 := by
 simp only [okG, Bool.and_eq_true, decide_eq_true_eq] at h
 exact ⟨n.toNat, by omega, by omega⟩

theorem l2All_ev {es : List S78} {n : Nat} (hn : n ≤ 8) : Ev (fun k => spec_l2All.f k n es) (bl n (2 ^ n - 1)) := by
 unfold spec_l2All.f
 rw [Ev.ite_iff, if_pos (by omega), mask_all n hn, Ev.bind_iff (l2Bits_ev n _ hn (by have := Nat.two_pow_pos n;omega)), Ev.now_iff]

def cho : List Int → Nat → List (List Int)
 | _, 0 => [[]]
 | [], _ + 1 => []
 | x :: s, k + 1 => (cho s k).map (fun t => x :: t) ++ cho s (k + 1)

theorem cho_zero (l : List Int) : cho l 0 = [[]] := by cases l <;> rfl

theorem cho_cons (x : Int) (s : List Int) (k : Nat) : cho (x :: s) (k + 1) = (cho s k).map (fun t => x :: t) ++ cho s (k + 1) := rfl

theorem cho_nil : ∀ (l : List Int) (k : Nat), l.length < k → cho l k = []
 | [], k + 1, _ => rfl
 | x :: s, k + 1, h => by
  rw [cho_cons, cho_nil s k (by simp at h;omega), cho_nil s (k + 1) (by simp at h;omega)];rfl
 | l, 0, h => by omega

theorem cho_len : ∀ (l : List Int) (k : Nat), (cho l k).length ≤ 2 ^ l.length
 | l, 0 => by rw [cho_zero];exact Nat.one_le_two_pow
 | [], k + 1 => by simp [cho]
 | x :: s, k + 1 => by
  rw [cho_cons, List.length_append, List.length_map, List.length_cons, Nat.pow_succ]
  have := cho_len s k;have := cho_len s (k + 1);omega

theorem cho_mem_len : ∀ (l : List Int) (k : Nat), ∀ t ∈ cho l k, t.length = k
 | l, 0 => by rw [cho_zero];simp
 | [], k + 1 => by simp [cho]
 | x :: s, k + 1 => by
  rw [cho_cons]
  intro t ht
  rcases List.mem_append.1 ht with h | h
  ·obtain ⟨u, hu, rfl⟩ := List.mem_map.1 h
   rw [List.length_cons, cho_mem_len s k u hu]
  ·exact cho_mem_len s (k + 1) t h

theorem rdL2_lt (l : List (List Int)) (i : Nat) (h : i < l.length) : rd_L2 l (i : Int) = l[i] := by simp [rd_L2, h]

theorem subsetsOf_ev : ∀ (m : Nat) (l : List Int) (k : Nat), l.length ≤ m → m ≤ 8 → k ≤ 8 → Ev (fun g => impl_subsetsOf.f g l k) (cho l k) := by
 intro m
 induction m using Nat.strongRecOn with
 | _ m IH =>
 intro l k hlm hm hk
 rw [Ev.iff_succ]
 simp only [impl_subsetsOf.f]
 cases k with
 | zero => rw [Ev.ite_iff, if_pos (by omega), Ev.now_iff, cho_zero]
 | succ k =>
 rw [Ev.ite_iff, if_neg (by omega)]
 have hp : 2 ^ l.length ≤ 256 := p8 (by omega)
 have H := down l.length (fun i => ∀ acc : List (List Int), acc.length + (cho (l.drop i) (k + 1)).length ≤ 256 → Ev (fun g => impl_subsetsOf.l0 g l ((k + 1 : Nat) : Int) acc l.length i) (acc ++ cho (l.drop i) (k + 1))) ?_ ?_ 0 (by omega) [] (by have := cho_len l (k + 1);simp;omega)
 ·simpa using H
 ·intro acc _
  rw [Ev.iff_succ]
  simp only [impl_subsetsOf.l0, Int.lt_irrefl, ↓reduceIte, Ev.now_iff, List.drop_length, cho, List.append_nil]
 ·intro i hi ih acc ha
  rw [Ev.iff_succ]
  have h1 : (i : Int) < l.length := by omega
  have h2 : (0 : Int) ≤ i := by omega
  have h3 : (0 : Int) ≤ ((i + 1 : Nat) : Int) := by omega
  have h4 : ((i + 1 : Nat) : Int) ≤ l.length := by omega
  have e1 : wrap64 (((k + 1 : Nat) : Int) - 1) = (k : Int) := by rw [w64] <;> omega
  have hrec := IH (l.length - (i + 1)) (by omega) (l.drop (i + 1)) k (by rw [List.length_drop];omega) (by omega) (by omega)
  have hd := List.drop_eq_getElem_cons hi
  rw [hd, cho_cons, List.length_append, List.length_map] at ha
  rw [hd, cho_cons]
  simp only [impl_subsetsOf.l0, Ev.ite_iff, h1, h3, h4, ↓reduceIte, w64_succ i (show i < 9223372036854775807 by omega), e1, Int.toNat_natCast]
  rw [Ev.bind_iff hrec]
  have hml := cho_mem_len (l.drop (i + 1)) k
  generalize cho (l.drop (i + 1)) k = T at ha hml ⊢
  have G := down T.length (fun j => Ev (fun g => impl_subsetsOf.l1 g l ((k + 1 : Nat) : Int) (acc ++ (T.take j).map (fun t => l[i] :: t)) i l.length i T T.length j) (acc ++ (T.map (fun t => l[i] :: t) ++ cho (l.drop (i + 1)) (k + 1)))) ?_ ?_ 0 (by omega)
  ·simpa using G
  ·show Ev _ _
   rw [Ev.iff_succ]
   simp only [impl_subsetsOf.l1, Int.lt_irrefl, ↓reduceIte, w64_succ i (show i < 9223372036854775807 by omega), List.take_length]
   rw [← List.append_assoc]
   exact ih _ (by rw [List.length_append, List.length_map];omega)
  ·intro j hj jh
   show Ev _ _
   rw [Ev.iff_succ]
   have g1 : (j : Int) < T.length := by omega
   have g2 : (0 : Int) ≤ j := by omega
   have hTl := hml T[j] (List.getElem_mem hj)
   have g3 : [l[i]].length + T[j].length < 17592186044416 := by simp;omega
   have g4 : (acc ++ (T.take j).map (fun t => l[i] :: t)).length < 5864062014805 := by
    rw [List.length_append, List.length_map, List.length_take];omega
   rw [List.take_succ_eq_append_getElem hj, List.map_append, ← List.append_assoc] at jh
   simp only [impl_subsetsOf.l1, Ev.ite_iff, g1, g2, h1, h2, ↓reduceIte, Option.bind_some, rd_lt l i hi, rdL2_lt T j hj, g3, g4, w64_succ j (show j < 9223372036854775807 by omega)]
   exact jh

theorem l8Choices_ev : ∀ (m : Nat) (l : List Int) (k : Nat), l.length ≤ m → m ≤ 8 → k ≤ l.length → Ev (fun g => spec_l8Choices.f g l k) (cho l k) := by
 intro m
 induction m using Nat.strongRecOn with
 | _ m IH =>
 intro l k hlm hm hk
 rw [Ev.iff_succ]
 simp only [spec_l8Choices.f]
 cases k with
 | zero => rw [Ev.ite_iff, if_pos (by omega), Ev.now_iff, cho_zero]
 | succ k =>
 rw [Ev.ite_iff, if_neg (by omega)]
 have hp : 2 ^ l.length ≤ 256 := p8 (by omega)
 have H := down (l.length - k) (fun i => ∀ acc : List (List Int), acc.length + (cho (l.drop i) (k + 1)).length ≤ 256 → Ev (fun g => spec_l8Choices.l0 g l ((k + 1 : Nat) : Int) acc i) (acc ++ cho (l.drop i) (k + 1))) ?_ ?_ 0 (by omega) [] (by have := cho_len l (k + 1);simp;omega)
 ·simpa using H
 ·intro acc _
  rw [Ev.iff_succ]
  have e0 : wrap64 (((l.length - k : Nat) : Int) + ((k + 1 : Nat) : Int)) = (l.length : Int) + 1 := by rw [w64] <;> omega
  simp only [spec_l8Choices.l0, e0, Ev.ite_iff, Ev.now_iff]
  rw [if_neg (by omega), cho_nil _ _ (by rw [List.length_drop];omega), List.append_nil]
 ·intro i hi ih acc ha
  rw [Ev.iff_succ]
  have hil : i < l.length := by omega
  have h1 : (i : Int) < l.length := by omega
  have h2 : (0 : Int) ≤ i := by omega
  have h3 : (0 : Int) ≤ ((i + 1 : Nat) : Int) := by omega
  have h4 : ((i + 1 : Nat) : Int) ≤ l.length := by omega
  have e0 : wrap64 ((i : Int) + ((k + 1 : Nat) : Int)) = (i : Int) + ((k + 1 : Nat) : Int) := by rw [w64] <;> omega
  have h5 : (i : Int) + ((k + 1 : Nat) : Int) ≤ (l.length : Int) := by omega
  have e1 : wrap64 (((k + 1 : Nat) : Int) - 1) = (k : Int) := by rw [w64] <;> omega
  have hrec := IH (l.length - (i + 1)) (by omega) (l.drop (i + 1)) k (by rw [List.length_drop];omega) (by omega) (by rw [List.length_drop];omega)
  have hd := List.drop_eq_getElem_cons hil
  rw [hd, cho_cons, List.length_append, List.length_map] at ha
  rw [hd, cho_cons]
  simp only [spec_l8Choices.l0, e0, Ev.ite_iff, h3, h4, h5, ↓reduceIte, w64_succ i (show i < 9223372036854775807 by omega), e1, Int.toNat_natCast]
  rw [Ev.bind_iff hrec]
  have hml := cho_mem_len (l.drop (i + 1)) k
  generalize cho (l.drop (i + 1)) k = T at ha hml ⊢
  have G := down T.length (fun j => Ev (fun g => spec_l8Choices.l1 g l ((k + 1 : Nat) : Int) (acc ++ (T.take j).map (fun t => l[i] :: t)) i T j) (acc ++ (T.map (fun t => l[i] :: t) ++ cho (l.drop (i + 1)) (k + 1)))) ?_ ?_ 0 (by omega)
  ·simpa using G
  ·show Ev _ _
   rw [Ev.iff_succ]
   simp only [spec_l8Choices.l1, Int.lt_irrefl, ↓reduceIte, w64_succ i (show i < 9223372036854775807 by omega), List.take_length]
   rw [← List.append_assoc]
   exact ih _ (by rw [List.length_append, List.length_map];omega)
  ·intro j hj jh
   show Ev _ _
   rw [Ev.iff_succ]
   have g1 : (j : Int) < T.length := by omega
   have g2 : (0 : Int) ≤ j := by omega
   have hTl := hml T[j] (List.getElem_mem hj)
   have g3 : [l[i]].length + T[j].length < 17592186044416 := by simp;omega
   have g4 : (acc ++ (T.take j).map (fun t => l[i] :: t)).length < 5864062014805 := by
    rw [List.length_append, List.length_map, List.length_take];omega
   rw [List.take_succ_eq_append_getElem hj, List.map_append, ← List.append_assoc] at jh
   simp only [spec_l8Choices.l1, Ev.ite_iff, g1, g2, h1, h2, ↓reduceIte, Option.bind_some, rd_lt l i hil, rdL2_lt T j hj, g3, g4, w64_succ j (show j < 9223372036854775807 by omega)]
   exact jh

theorem eqIntSS_refl (L : List (List Int)) (hL : L.length ≤ 9223372036854775807) (hr : ∀ r ∈ L, r.length ≤ 9223372036854775807) : Ev (fun k => laws_eqIntSS.f k L L) true := by
 unfold laws_eqIntSS.f
 rw [Ev.ite_iff, if_pos rfl]
 have H := down L.length (fun i => Ev (fun k => laws_eqIntSS.l0 k L L i) true) ?_ ?_ 0 (by omega)
 ·simpa using H
 ·show Ev _ _
  rw [Ev.iff_succ]
  simp [laws_eqIntSS.l0, Ev.now_iff]
 ·intro i hi ih
  show Ev _ _
  rw [Ev.iff_succ]
  have h1 : (i : Int) < L.length := by omega
  have h2 : (0 : Int) ≤ i := by omega
  have hri := hr L[i] (List.getElem_mem hi)
  simp only [laws_eqIntSS.l0, Ev.ite_iff, h1, h2, ↓reduceIte, w64_succ i (by omega), rdL2_lt L i hi]
  rw [Ev.bind_iff (eqIntS_refl L[i] hri)]
  simp only [↓reduceIte]
  exact ih

def upSS : Int → List Nat → List (List Int)
 | _, [] => []
 | a, c :: cs => upF a c :: upSS (a + (c : Int)) cs

theorem upSS_len : ∀ (cs : List Nat) (a : Int), (upSS a cs).length = cs.length
 | [], _ => rfl
 | c :: cs, a => by simp [upSS, upSS_len cs]

theorem upSS_snoc : ∀ (cs : List Nat) (a : Int) (c : Nat), upSS a (cs ++ [c]) = upSS a cs ++ [upF (a + (cs.sum : Nat)) c]
 | [], a, c => by simp [upSS]
 | d :: cs, a, c => by
  rw [List.cons_append, upSS, upSS, upSS_snoc cs, List.sum_cons, List.cons_append]
  rw [show a + (d : Int) + ((cs.sum : Nat) : Int) = a + ((d + cs.sum : Nat) : Int) by omega]

theorem upSS_get : ∀ (cs : List Nat) (a : Int) (i : Nat) (h : i < cs.length) (h' : i < (upSS a cs).length), (upSS a cs)[i] = upF (a + ((cs.take i).sum : Nat)) cs[i]
 | c :: cs, a, 0, h, h' => by simp [upSS]
 | c :: cs, a, i + 1, h, h' => by
  simp only [upSS, List.getElem_cons_succ, List.take_succ_cons, List.sum_cons]
  rw [upSS_get cs (a + c) i (by simpa using h) (by rw [upSS_len];simpa using h)]
  rw [show a + (c : Int) + (((cs.take i).sum : Nat) : Int) = a + ((c + (cs.take i).sum : Nat) : Int) by omega]

theorem sum_take_succ (cs : List Nat) (i : Nat) (h : i < cs.length) : (cs.take (i + 1)).sum = (cs.take i).sum + cs[i] := by
 rw [List.take_succ_eq_append_getElem h, List.sum_append];simp

theorem sum_take_le (cs : List Nat) : ∀ i : Nat, (cs.take i).sum ≤ cs.sum := by
 intro i
 have h := List.take_append_drop i cs
 have h2 := congrArg List.sum h
 rw [List.sum_append] at h2
 omega

theorem markIntSS_ev (L : List (List Int)) (a : Int) (ha : 0 ≤ a) (hL : L.length < 9223372036854775807) (h : a + ((L.map List.length).sum : Nat) < 9223372036854775807) :
  Ev (fun k => laws_markIntSS.f k L a) (a + ((L.map List.length).sum : Nat), upSS a (L.map List.length)) := by
 have hcl : (L.map List.length).length = L.length := by simp
 have hcg : ∀ i (hi : i < L.length), (L.map List.length)[i]'(by rw [hcl];exact hi) = L[i].length := fun i hi => by simp
 generalize hcs : L.map List.length = cs at h hcl hcg ⊢
 have H := down L.length (fun i => Ev (fun k => laws_markIntSS.l0 k (upSS a (cs.take i) ++ L.drop i) (a + ((cs.take i).sum : Nat)) i) (a + (cs.sum : Nat), upSS a cs)) ?_ ?_ 0 (by omega)
 ·simpa [laws_markIntSS.f, upSS] using H
 ·show Ev _ _
  rw [Ev.iff_succ]
  simp only [List.drop_length, List.append_nil, List.take_of_length_le (show cs.length ≤ L.length by omega), laws_markIntSS.l0, upSS_len, hcl, Int.lt_irrefl, ↓reduceIte, Ev.now_iff]
 ·intro i hi ih
  show Ev _ _
  rw [Ev.iff_succ]
  have hic : i < cs.length := by omega
  have hut : (upSS a (cs.take i)).length = i := by rw [upSS_len, List.length_take];omega
  have h0 : ((upSS a (cs.take i) ++ L.drop i).length : Int) = L.length := by rw [List.length_append, hut, List.length_drop];omega
  have h1 : (i : Int) < L.length := by omega
  have h2 : (0 : Int) ≤ i := by omega
  have h3 : rd_L2 (upSS a (cs.take i) ++ L.drop i) i = L[i] := by
   rw [rdL2_lt _ i (by rw [List.length_append, hut, List.length_drop];omega), List.getElem_append_right (by omega)]
   simp [hut]
  have hs := sum_take_succ cs i hic
  have hsl := sum_take_le cs (i + 1)
  have hli := hcg i hi
  have h5 : (upSS a (cs.take i) ++ L.drop i).set i (upF (a + ((cs.take i).sum : Nat)) L[i].length) = upSS a (cs.take (i + 1)) ++ L.drop (i + 1) := by
   rw [List.drop_eq_getElem_cons hi, List.set_append_right _ _ (by omega), hut, Nat.sub_self, List.set_cons_zero, List.take_succ_eq_append_getElem hic, upSS_snoc, List.append_assoc, hli];rfl
  simp only [laws_markIntSS.l0, Ev.ite_iff, h0, h1, h2, ↓reduceIte, h3]
  rw [Ev.bind_iff (markIntS_ev L[i] _ (by omega) (by omega))]
  simp only [w64_succ i (show i < 9223372036854775807 by omega), Int.toNat_natCast, h5]
  rw [show a + ((cs.take i).sum : Nat) + ((L[i].length : Nat) : Int) = a + ((cs.take (i + 1)).sum : Nat) by omega]
  exact ih

theorem heldIntSS_ev (a : Int) (cs : List Nat) (ha : 0 ≤ a) (hl : cs.length < 9223372036854775807) (h : a + (cs.sum : Nat) < 9223372036854775807) : Ev (fun k => laws_heldIntSS.f k (upSS a cs) a) (a + (cs.sum : Nat)) := by
 have H := down cs.length (fun i => Ev (fun k => laws_heldIntSS.l0 k (upSS a cs) (a + ((cs.take i).sum : Nat)) i) (a + (cs.sum : Nat))) ?_ ?_ 0 (by omega)
 ·simpa [laws_heldIntSS.f] using H
 ·show Ev _ _
  rw [Ev.iff_succ]
  simp only [List.take_length]
  simp [laws_heldIntSS.l0, Ev.now_iff, upSS_len]
 ·intro i hi ih
  show Ev _ _
  rw [Ev.iff_succ]
  have h1 : (i : Int) < ((upSS a cs).length : Int) := by rw [upSS_len];omega
  have h2 : (0 : Int) ≤ i := by omega
  have hs := sum_take_succ cs i hi
  have hsl := sum_take_le cs (i + 1)
  have h3 : rd_L2 (upSS a cs) i = upF (a + ((cs.take i).sum : Nat)) cs[i] := by
   rw [rdL2_lt _ i (by rw [upSS_len];exact hi), upSS_get cs a i hi]
  simp only [laws_heldIntSS.l0, Ev.ite_iff, h1, h2, ↓reduceIte, h3]
  rw [Ev.bind_iff (heldIntS_ev _ cs[i] (by omega) (by omega)), Ev.ite_iff, if_neg (by omega)]
  rw [w64_succ i (by omega), show a + ((cs.take i).sum : Nat) + ((cs[i] : Nat) : Int) = a + ((cs.take (i + 1)).sum : Nat) by omega]
  exact ih

theorem sum_le_mul : ∀ (L : List (List Int)) (c : Nat), (∀ r ∈ L, r.length ≤ c) → (L.map List.length).sum ≤ L.length * c
 | [], _, _ => by simp
 | r :: L, c, h => by
  have h1 := sum_le_mul L c (fun s hs => h s (by simp [hs]))
  have h2 := h r (by simp)
  rw [List.map_cons, List.sum_cons, List.length_cons, Nat.succ_mul]
  omega

theorem closed_eq {es : List S78} {n x : Nat} (hn : n ≤ 8) (hx : x < n) : impl_net_closed.f (nets es n) (x : Int) = some (((nb es n x ||| 2 ^ x : Nat)) : Int) := by
 unfold impl_net_closed.f
 rw [if_pos (by omega), if_pos (by rw [nets_len];omega), nets_rd hx, shl_one (by omega), gor _ _ (lt62 hn (nb_lt es n x)) (lt62 hn (Nat.pow_lt_pow_right (by decide) hx))]

def lowM (n S : Nat) : Nat := (List.range n).findIdx (fun x => S.testBit x)

theorem lowM_use {n S : Nat} (h : S < 2 ^ n) (h0 : S ≠ 0) : lowM n S < n ∧ S.testBit (lowM n S) = true := by
 have hex : ∃ x ∈ List.range n, S.testBit x = true := by
  apply Classical.byContradiction
  intro hn
  apply h0
  refine Nat.eq_of_testBit_eq (fun i => ?_)
  rw [Nat.zero_testBit, Bool.eq_false_iff]
  intro hb
  by_cases hi : i < n
  ·exact hn ⟨i, List.mem_range.2 hi, hb⟩
  ·rw [bit_lt h (by omega)] at hb;cases hb
 have hlt := List.findIdx_lt_length.2 hex
 have hg := List.findIdx_getElem (w := hlt)
 rw [List.length_range] at hlt
 simp only [List.getElem_range] at hg
 exact ⟨hlt, hg⟩

theorem mns_sub_lt {S x : Nat} (h : S.testBit x = true) : mns S (2 ^ x) < S := by
 have hle : mns S (2 ^ x) ≤ S := by
  have : mns S (2 ^ x) &&& S = mns S (2 ^ x) := by
   refine Nat.eq_of_testBit_eq (fun i => ?_)
   rw [Nat.testBit_and, mns_bit]
   cases S.testBit i <;> simp
  rw [← this];exact Nat.and_le_right
 have hne : mns S (2 ^ x) ≠ S := by
  intro e
  have := mns_bit S (2 ^ x) x
  rw [e, h] at this
  simp at this
 omega

def mm (es : List S78) (n : Nat) (S : Nat) : Nat :=
 if h : S < 2 ^ n ∧ S ≠ 0 then
  (List.range n).attach.foldl (fun acc y => if hy : (nb es n (lowM n S) &&& S).testBit y.val = true then max acc (mm es n (mns (mns S (2 ^ lowM n S)) (2 ^ y.val)) + 1) else acc) (mm es n (mns S (2 ^ lowM n S)))
 else 0
 termination_by S
 decreasing_by
 ·have h1 := mns_sub_lt (lowM_use h.1 h.2).2
  have hle : ∀ a b : Nat, mns a b ≤ a := fun a b => by
   have : mns a b &&& a = mns a b := by
    refine Nat.eq_of_testBit_eq (fun i => ?_)
    rw [Nat.testBit_and, mns_bit]
    cases a.testBit i <;> simp
   rw [← this];exact Nat.and_le_right
  exact Nat.lt_of_le_of_lt (hle _ _) h1
 ·exact mns_sub_lt (lowM_use h.1 h.2).2

theorem tz_low : ∀ n : Nat, n ≤ 8 → ∀ m : Nat, m < 2 ^ n → m ≠ 0 → Go.Lib.ctz 64 m = lowM n m := by decide +kernel

theorem tz_ev {n m : Nat} (hn : n ≤ 8) (hm : m < 2 ^ n) (h0 : m ≠ 0) : bits_TrailingZeros.f (IntKind.u64.wrap (m : Int)) = some ((lowM n m : Nat) : Int) := by
 have h8 := p8 hn
 rw [u64_wrap_id m (lt62 hn hm)]
 unfold bits_TrailingZeros.f
 rw [if_pos ⟨by omega, by omega⟩, Int.toNat_natCast, tz_low n hn m hm h0]

def canM (es : List S78) (n : Nat) : List Nat → Nat → Bool
 | [], _ => true
 | g :: gs, S => (bl n ((nb es n g ||| 2 ^ g) &&& S)).any (fun x => canM es n gs (mns S (2 ^ x.toNat)))

theorem idxAny {q : Nat → Int → Option Bool} {p : Int → Bool} : ∀ (l : List Int) (i : Nat), (∀ x ∈ l, Ev (fun k => q k x) (p x)) → ∃ j : Int, Ev (fun k => idxO (q k) l (i : Int)) j ∧ decide (0 ≤ j) = l.any p
 | [], _, _ => ⟨-1, by simp only [idxO];exact Ev.now _, rfl⟩
 | x :: l, i, hq => by
  cases hp : p x with
  | true =>
   refine ⟨(i : Int), ?_, by rw [List.any_cons, hp, Bool.true_or];exact decide_eq_true (by omega)⟩
   simp only [idxO]
   rw [Ev.bind_iff (hq x (by simp)), hp, Ev.ite_iff, if_pos rfl, Ev.now_iff]
  | false =>
   obtain ⟨j, h1, h2⟩ := idxAny l (i + 1) (fun y hy => hq y (by simp [hy]))
   refine ⟨j, ?_, by rw [List.any_cons, hp, Bool.false_or];exact h2⟩
   simp only [idxO]
   rw [Ev.bind_iff (hq x (by simp)), hp, Ev.ite_iff, if_neg (by decide)]
   rw [show ((i + 1 : Nat) : Int) = (i : Int) + 1 by omega] at h1
   exact h1

theorem canMatch_ev {es : List S78} {n : Nat} (hn : n ≤ 8) : ∀ (gs : List Nat) (S : Nat), (∀ g ∈ gs, g < n) → S < 2 ^ n → Ev (fun k => impl_net_canMatch.f k (nets es n) (gs.map fun g : Nat => (g : Int)) (S : Int)) (canM es n gs S)
 | [], S, _, _ => by simp only [List.map_nil, impl_net_canMatch.f, canM];exact Ev.now _
 | g :: gs, S, hg, hS => by
  have hgn := hg g (by simp)
  have hpg : 2 ^ g < 2 ^ n := Nat.pow_lt_pow_right (by decide) hgn
  have hcl : nb es n g ||| 2 ^ g < 2 ^ n := Nat.or_lt_two_pow (nb_lt es n g) hpg
  have hl : (nb es n g ||| 2 ^ g) &&& S < 2 ^ n := Nat.and_lt_two_pow _ hS
  simp only [List.map_cons, impl_net_canMatch.f, canM]
  rw [closed_eq hn hgn]
  simp only [Option.bind_some]
  rw [gand _ _ (lt62 hn hcl) (lt62 hn hS), Ev.bind_iff (setOf_ev n _ hn hl)]
  obtain ⟨j, h1, h2⟩ := idxAny (q := fun k x => if 0 ≤ x then impl_net_canMatch.f k (nets es n) (gs.map fun g : Nat => (g : Int)) (Go.bits .andNot .i64 (S : Int) (shl .i64 1 x)) else none) (p := fun x => canM es n gs (mns S (2 ^ x.toNat))) (bl n ((nb es n g ||| 2 ^ g) &&& S)) 0 (fun x hx => by
   obtain ⟨i, hi, _, rfl⟩ := mem_bl.1 hx
   have hpi : 2 ^ i < 2 ^ 62 := Nat.pow_lt_pow_right (by decide) (by omega)
   rw [Ev.ite_iff, if_pos (by omega), Int.toNat_natCast, shl_one (by omega), gandn _ _ (lt62 hn hS) hpi]
   exact canMatch_ev hn gs _ (fun y hy => hg y (by simp [hy])) (mns_lt _ hS))
  rw [Ev.bind_iff (show Ev (fun k => idxO _ _ 0) j from h1), Ev.now_iff, h2]

theorem any_bl {n m : Nat} {p : Int → Bool} : (bl n m).any p = true ↔ ∃ i, i < n ∧ m.testBit i = true ∧ p (i : Int) = true := by
 rw [List.any_eq_true]
 constructor
 ·rintro ⟨x, hx, hp⟩
  obtain ⟨i, h1, h2, rfl⟩ := mem_bl.1 hx
  exact ⟨i, h1, h2, hp⟩
 ·rintro ⟨i, h1, h2, hp⟩
  exact ⟨(i : Int), mem_bl.2 ⟨i, h1, h2, rfl⟩, hp⟩

theorem l10Matches_ev {es : List S78} {n : Nat} (hn : n ≤ 8) (he : es.length ≤ 9223372036854775807) (fl : List Nat) (t : Nat) (hfl : ∀ g ∈ fl, g < n) (hft : fl.length ≤ 8) : ∀ (d a : Nat) (u : List Int) (S : Nat), a + d = fl.length → u.length ≤ a → S < 2 ^ n → (∀ i, i < n → (S.testBit i = true ↔ t.testBit i = true ∧ (i : Int) ∉ u)) →
  Ev (fun k => spec_l10Matches.f k n es (fl.map fun g : Nat => (g : Int)) (bl n t) (a : Int) u) (canM es n (fl.drop a) S) := by
 intro d
 induction d with
 | zero =>
  intro a u S ha hu hS hrel
  rw [Ev.iff_succ]
  simp only [spec_l10Matches.f, List.length_map]
  rw [Ev.ite_iff, if_pos (by omega), Ev.now_iff, List.drop_eq_nil_of_le (by omega)]
  rfl
 | succ d ih =>
  intro a u S ha hu hS hrel
  have hal : a < fl.length := by omega
  have hbl := bl_len_le n t
  rw [Ev.iff_succ]
  simp only [spec_l10Matches.f, List.length_map]
  rw [Ev.ite_iff, if_neg (by omega), List.drop_eq_getElem_cons hal]
  have hgn := hfl fl[a] (List.getElem_mem hal)
  have hgr : rd (fl.map fun g : Nat => (g : Int)) (a : Int) = ((fl[a] : Nat) : Int) := by rw [rd_lt _ _ (by rw [List.length_map];exact hal), List.getElem_map]
  generalize fl[a] = g at hgn hgr
  have key : ∀ e i, i + e = (bl n t).length → Ev (fun k => spec_l10Matches.l0 k (fl.map fun g : Nat => (g : Int)) (bl n t) (a : Int) u (i : Int) n es) (((bl n t).drop i).any (fun x => !decide (x ∈ u) && (decide (x = (g : Int)) || near es g x) && canM es n (fl.drop (a + 1)) (mns S (2 ^ x.toNat)))) := by
   intro e
   induction e with
   | zero =>
    intro i hi
    rw [Ev.iff_succ]
    simp only [spec_l10Matches.l0]
    rw [Ev.ite_iff, if_neg (by omega), Ev.now_iff, List.drop_eq_nil_of_le (by omega)]
    rfl
   | succ e ihe =>
    intro i hi
    have hil : i < (bl n t).length := by omega
    obtain ⟨x, hxn, hxb, hxe⟩ := mem_bl.1 (List.getElem_mem hil)
    have ih0 := ihe (i + 1) (by omega)
    have g1 : (i : Int) < ((bl n t).length : Int) := by omega
    have g2 : (0 : Int) ≤ (i : Int) := by omega
    have g3 : (0 : Int) ≤ (a : Int) := by omega
    have g4 : (a : Int) < ((fl.map fun g : Nat => (g : Int)).length : Int) := by rw [List.length_map];omega
    have e1 : rd (bl n t) (i : Int) = (x : Int) := by rw [rd_lt _ _ hil, hxe]
    rw [Ev.iff_succ, List.drop_eq_getElem_cons hil, hxe, List.any_cons]
    simp only [spec_l10Matches.l0, Ev.ite_iff, g1, g2, g3, g4, e1, hgr, ↓reduceIte, Int.toNat_natCast]
    rw [Ev.bind_iff (l1Has_ev u (x : Int) (by omega)), Ev.ite_iff]
    have skip : Ev (fun k => spec_l10Matches.j1 k (fl.map fun g : Nat => (g : Int)) (bl n t) (a : Int) u (i : Int) true n es) (((bl n t).drop (i + 1)).any (fun x => !decide (x ∈ u) && (decide (x = (g : Int)) || near es g x) && canM es n (fl.drop (a + 1)) (mns S (2 ^ x.toNat)))) := by
     rw [Ev.iff_succ]
     simp only [spec_l10Matches.j1, ↓reduceIte, w64_succ i (show i < 9223372036854775807 by omega)]
     exact ih0
    by_cases c : (x : Int) ∈ u
    ·rw [if_pos (by simpa using c)]
     simp only [c, decide_true, Bool.not_true, Bool.false_and, Bool.false_or]
     exact skip
    ·rw [if_neg (by simpa using c)]
     simp only [c, decide_false, Bool.not_false, Bool.true_and]
     have take : ∀ b : Bool, (b = true → True) → Ev (fun k => spec_l10Matches.j1 k (fl.map fun g : Nat => (g : Int)) (bl n t) (a : Int) u (i : Int) false n es) (canM es n (fl.drop (a + 1)) (mns S (2 ^ x)) || ((bl n t).drop (i + 1)).any (fun x => !decide (x ∈ u) && (decide (x = (g : Int)) || near es g x) && canM es n (fl.drop (a + 1)) (mns S (2 ^ x.toNat)))) := by
      intro _ _
      rw [Ev.iff_succ]
      have hf := ih (a + 1) (u ++ [(x : Int)]) (mns S (2 ^ x)) (by omega) (by rw [List.length_append];simp only [List.length_cons, List.length_nil];omega) (mns_lt _ hS) (fun j hj => by
       rw [mns_bit, Nat.testBit_two_pow]
       simp only [Bool.and_eq_true, Bool.not_eq_true', decide_eq_false_iff_not, hrel j hj, List.mem_append, List.mem_cons, List.not_mem_nil, or_false, not_or]
       constructor
       ·rintro ⟨⟨h1, h2⟩, h3⟩;exact ⟨h1, h2, by omega⟩
       ·rintro ⟨h1, h2, h3⟩;exact ⟨⟨h1, h2⟩, by omega⟩)
      simp only [spec_l10Matches.j1, Bool.false_eq_true, ↓reduceIte, l1Own_eq (show u.length < 17592186044416 by omega), Option.bind_some, g1, g2, e1, List.length_cons, List.length_nil, w64_succ i (show i < 9223372036854775807 by omega), w64_succ a (show a < 9223372036854775807 by omega), Ev.ite_iff]
      rw [if_pos (by omega), Ev.bind_iff hf]
      simp only [Ev.ite_iff]
      cases canM es n (fl.drop (a + 1)) (mns S (2 ^ x)) with
      | true => simp only [↓reduceIte, Bool.true_or];exact Ev.now _
      | false => simp only [Bool.false_eq_true, ↓reduceIte, Bool.false_or];exact ih0
     by_cases cg : (x : Int) = (g : Int)
     ·rw [Ev.ite_iff, if_pos cg]
      simp only [cg, decide_true, Bool.true_or, Bool.true_and]
      have := take true (fun _ => trivial)
      rwa [show x = g by omega] at this ⊢
     ·rw [Ev.ite_iff, if_neg cg, Ev.bind_iff (l2Near_ev n es g x he)]
      simp only [cg, decide_false, Bool.false_or]
      cases hnr : near es g x with
      | true => simp only [Bool.not_true, Bool.true_and];exact take true (fun _ => trivial)
      | false => simp only [Bool.not_false, Bool.false_and, Bool.false_or];exact skip
  have hk := key (bl n t).length 0 (by omega)
  rw [List.drop_zero] at hk
  have hfin : (bl n t).any (fun x => !decide (x ∈ u) && (decide (x = (g : Int)) || near es g x) && canM es n (fl.drop (a + 1)) (mns S (2 ^ x.toNat))) = canM es n (g :: fl.drop (a + 1)) S := by
   rw [canM, Bool.eq_iff_iff, any_bl, any_bl]
   constructor
   ·rintro ⟨i, h1, h2, h3⟩
    simp only [Bool.and_eq_true, Bool.not_eq_true', decide_eq_false_iff_not, Bool.or_eq_true, decide_eq_true_eq, Int.toNat_natCast] at h3
    refine ⟨i, h1, ?_, by rw [Int.toNat_natCast];exact h3.2⟩
    rw [Nat.testBit_and, (hrel i h1).2 ⟨h2, h3.1.1⟩, Bool.and_true, Nat.testBit_or, nb_bit, Nat.testBit_two_pow]
    rcases h3.1.2 with h | h
    ·have : g = i := by omega
     simp [this]
    ·simp [h1, h]
   ·rintro ⟨i, h1, h2, h3⟩
    rw [Nat.testBit_and, Bool.and_eq_true, Nat.testBit_or, Bool.or_eq_true, nb_bit, Nat.testBit_two_pow] at h2
    have hr := (hrel i h1).1 h2.2
    refine ⟨i, h1, hr.1, ?_⟩
    simp only [Int.toNat_natCast] at h3 ⊢
    simp only [hr.2, decide_false, Bool.not_false, Bool.true_and, h3, Bool.and_true, Bool.or_eq_true, decide_eq_true_eq]
    rcases h2.1 with h | h
    ·right;simp only [Bool.and_eq_true] at h;exact h.2
    ·left;have := of_decide_eq_true h;omega
  rw [hfin] at hk
  exact hk

def movesM (es : List S78) (n f t : Nat) (all : Bool) : Bool :=
 if all then canM es n ((List.range n).filter fun x => f.testBit x) t else decide ((bl n (mns f t)).length = 1) && near es (rd (bl n (mns f t)) 0) (rd (bl n (mns t f)) 0)

theorem bl_map (n m : Nat) : bl n m = ((List.range n).filter fun x => m.testBit x).map fun g : Nat => (g : Int) := rfl

theorem bl_out {n f t : Nat} : (bl n f).filter (fun x => !decide (x ∈ bl n t)) = bl n (mns f t) := by
 refine asc_ext (asc_of_pairwise (p := none) ((bl_pairwise n f).filter _) (fun q hq => by cases hq)) (bl_asc n _) (fun x => ?_)
 rw [List.mem_filter]
 constructor
 ·rintro ⟨h, h3⟩
  obtain ⟨i, h1, h2, rfl⟩ := mem_bl.1 h
  refine mem_bl.2 ⟨i, h1, ?_, rfl⟩
  simp only [mem_bl_nat, h1, true_and, Bool.not_eq_true', decide_eq_false_iff_not, Bool.not_eq_true] at h3
  rw [mns_bit, h2, h3];rfl
 ·intro h
  obtain ⟨i, h1, h2, rfl⟩ := mem_bl.1 h
  rw [mns_bit, Bool.and_eq_true, Bool.not_eq_true'] at h2
  refine ⟨mem_bl.2 ⟨i, h1, h2.1, rfl⟩, ?_⟩
  simp only [mem_bl_nat, h1, true_and, h2.2];rfl

theorem bl_in2 {n f t : Nat} : (bl n f).filter (fun x => decide (x ∈ bl n t)) = bl n (f &&& t) := by
 refine asc_ext (asc_of_pairwise (p := none) ((bl_pairwise n f).filter _) (fun q hq => by cases hq)) (bl_asc n _) (fun x => ?_)
 rw [List.mem_filter]
 constructor
 ·rintro ⟨h, h3⟩
  obtain ⟨i, h1, h2, rfl⟩ := mem_bl.1 h
  refine mem_bl.2 ⟨i, h1, ?_, rfl⟩
  simp only [mem_bl_nat, h1, true_and, decide_eq_true_eq] at h3
  rw [Nat.testBit_and, h2, h3];rfl
 ·intro h
  obtain ⟨i, h1, h2, rfl⟩ := mem_bl.1 h
  rw [Nat.testBit_and, Bool.and_eq_true] at h2
  refine ⟨mem_bl.2 ⟨i, h1, h2.1, rfl⟩, ?_⟩
  simp only [mem_bl_nat, h1, true_and, h2.2];rfl

theorem len_parts {α : Type} (p : α → Bool) : ∀ l : List α, l.length = (l.filter p).length + (l.filter fun x => !p x).length
 | [] => rfl
 | x :: l => by
  have := len_parts p l
  rw [List.filter_cons, List.filter_cons]
  cases p x <;> simp <;> omega

theorem out_len {n f t : Nat} : (bl n f).length = (bl n (f &&& t)).length + (bl n (mns f t)).length := by
 rw [← bl_in2, ← bl_out]
 exact len_parts (fun x => decide (x ∈ bl n t)) (bl n f)

theorem out_same {n f t : Nat} (h : (bl n f).length = (bl n t).length) : (bl n (mns f t)).length = (bl n (mns t f)).length := by
 have h1 := out_len (n := n) (f := f) (t := t)
 have h2 := out_len (n := n) (f := t) (t := f)
 rw [Nat.and_comm t f] at h2
 omega

theorem l10Moves_l0 {es : List S78} {n f t : Nat} (he : es.length ≤ 9223372036854775807) (hn : n ≤ 8) (hlen : (bl n f).length = (bl n t).length) : ∀ (d i : Nat) (gone come : List Int), i + d = (bl n f).length → gone.length ≤ i → come.length ≤ i →
  gone ++ ((bl n f).drop i).filter (fun x => !decide (x ∈ bl n t)) = bl n (mns f t) → come ++ ((bl n t).drop i).filter (fun x => !decide (x ∈ bl n f)) = bl n (mns t f) →
  Ev (fun k => spec_l10Moves.l0 k (bl n f) (bl n t) gone come (i : Int) n es) (decide ((bl n (mns f t)).length = 1) && near es (rd (bl n (mns f t)) 0) (rd (bl n (mns t f)) 0)) := by
 have hb1 := bl_len_le n f
 have hb2 := bl_len_le n t
 have hb3 : (bl n f).length ≤ 9223372036854775807 := Nat.le_trans hb1 (Nat.le_trans hn (by decide))
 have hb4 : (bl n t).length ≤ 9223372036854775807 := Nat.le_trans hb2 (Nat.le_trans hn (by decide))
 intro d
 induction d with
 | zero =>
  intro i gone come hi _ _ hg hc
  rw [List.drop_eq_nil_of_le (by omega), List.filter_nil, List.append_nil] at hg hc
  have hs := out_same hlen
  rw [Ev.iff_succ]
  simp only [spec_l10Moves.l0, hg, hc]
  rw [Ev.ite_iff, if_neg (by omega), Ev.ite_iff]
  by_cases h1 : (bl n (mns f t)).length = 1
  ·rw [if_pos (by omega), Ev.ite_iff, if_pos (by omega), Ev.ite_iff, if_pos (by omega), Ev.bind_iff (l2Near_ev n es _ _ he), Ev.now_iff, decide_eq_true h1, Bool.true_and]
  ·rw [if_neg (by omega), Ev.now_iff, decide_eq_false h1, Bool.false_and]
 | succ d ih =>
  intro i gone come hi hgl hcl hg hc
  have hif : i < (bl n f).length := by omega
  have hit : i < (bl n t).length := by omega
  have e1 := rd_lt (bl n f) i hif
  have e2 := rd_lt (bl n t) i hit
  rw [List.drop_eq_getElem_cons hif, List.filter_cons] at hg
  rw [List.drop_eq_getElem_cons hit, List.filter_cons] at hc
  generalize (bl n f)[i] = x at e1 hg
  generalize (bl n t)[i] = y at e2 hc
  have g1 : (i : Int) < ((bl n f).length : Int) := by omega
  have g1t : (i : Int) < ((bl n t).length : Int) := by omega
  have g2 : (0 : Int) ≤ (i : Int) := by omega
  have g3 : gone.length < 17592186044416 := by omega
  have g4 : come.length < 17592186044416 := by omega
  have hi7 : i < 9223372036854775807 := by omega
  rw [Ev.iff_succ]
  simp only [spec_l10Moves.l0, Ev.ite_iff, g1, g1t, g2, g3, g4, ↓reduceIte, e1, e2, w64_succ i hi7, Option.bind_some]
  clear e1 e2 g1 g1t g2 g3 g4 hi7
  rw [Ev.bind_iff (l1Has_ev (bl n t) x hb4), Ev.ite_iff]
  by_cases cx : x ∈ bl n t
  ·rw [if_pos (by simpa using cx), Ev.bind_iff (l1Has_ev (bl n f) y hb3), Ev.ite_iff]
   rw [if_neg (by simpa using cx)] at hg
   by_cases cy : y ∈ bl n f
   ·rw [if_pos (by simpa using cy)]
    rw [if_neg (by simpa using cy)] at hc
    exact ih (i + 1) gone come (by omega) (by omega) (by omega) hg hc
   ·rw [if_neg (by simpa using cy)]
    rw [if_pos (by simpa using cy)] at hc
    exact ih (i + 1) gone (come ++ [y]) (by omega) (by omega) (by rw [List.length_append];simp only [List.length_cons, List.length_nil];omega) hg (by rw [List.append_assoc];exact hc)
  ·rw [if_neg (by simpa using cx), Ev.bind_iff (l1Has_ev (bl n f) y hb3), Ev.ite_iff]
   rw [if_pos (by simpa using cx)] at hg
   by_cases cy : y ∈ bl n f
   ·rw [if_pos (by simpa using cy)]
    rw [if_neg (by simpa using cy)] at hc
    exact ih (i + 1) (gone ++ [x]) come (by omega) (by rw [List.length_append];simp only [List.length_cons, List.length_nil];omega) (by omega) (by rw [List.append_assoc];exact hg) hc
   ·rw [if_neg (by simpa using cy)]
    rw [if_pos (by simpa using cy)] at hc
    exact ih (i + 1) (gone ++ [x]) (come ++ [y]) (by omega) (by rw [List.length_append];simp only [List.length_cons, List.length_nil];omega) (by rw [List.length_append];simp only [List.length_cons, List.length_nil];omega) (by rw [List.append_assoc];exact hg) (by rw [List.append_assoc];exact hc)

theorem l10Moves_ev {es : List S78} {n f t : Nat} (he : es.length ≤ 9223372036854775807) (hn : n ≤ 8) (ht : t < 2 ^ n) (all : Bool) (hlen : (bl n f).length = (bl n t).length) : Ev (fun k => spec_l10Moves.f k n es (bl n f) (bl n t) all) (movesM es n f t all) := by
 unfold spec_l10Moves.f movesM
 cases all with
 | true =>
  simp only [↓reduceIte]
  have h8 := bl_len_le n f
  rw [bl_map n f, List.length_map] at h8
  have := l10Matches_ev (es := es) hn he ((List.range n).filter fun x => f.testBit x) t (fun g hg => List.mem_range.1 (List.mem_filter.1 hg).1) (by omega) ((List.range n).filter fun x => f.testBit x).length 0 [] t (by omega) (by simp) ht (fun i hi => by simp)
  rw [List.drop_zero] at this
  rw [Ev.bind_iff (show Ev (fun k => spec_l10Matches.f k n es (bl n f) (bl n t) 0 []) _ from this), Ev.now_iff]
 | false =>
  simp only [Bool.false_eq_true, ↓reduceIte]
  exact l10Moves_l0 he hn hlen (bl n f).length 0 [] [] (by omega) (by simp) (by simp) (by rw [List.drop_zero, List.nil_append];exact bl_out) (by rw [List.drop_zero, List.nil_append];exact bl_out)

theorem one_of_len {n m : Nat} (hm : m < 2 ^ n) (h : (bl n m).length = 1) : bl n m = [((lowM n m : Nat) : Int)] := by
 have h0 : m ≠ 0 := by
  intro e;subst e
  have : bl n 0 = [] := by unfold bl;simp
  rw [this] at h;simp at h
 obtain ⟨h1, h2⟩ := lowM_use hm h0
 have hin := mem_bl_nat.2 ⟨h1, h2⟩
 obtain ⟨a, ha⟩ := List.length_eq_one_iff.1 h
 rw [ha] at hin ⊢
 rw [List.mem_singleton.1 hin]

theorem canMoveGuards_ev {es : List S78} {n f t : Nat} (hn : n ≤ 8) (hf : f < 2 ^ n) (ht : t < 2 ^ n) (all : Bool) (hlen : (bl n f).length = (bl n t).length) : Ev (fun k => impl_net_canMoveGuards.f k (nets es n) (f : Int) (t : Int) all) (movesM es n f t all) := by
 unfold impl_net_canMoveGuards.f movesM
 cases all with
 | true =>
  simp only [↓reduceIte]
  rw [Ev.bind_iff (setOf_ev n f hn hf), bl_map n f, Ev.bind_iff (canMatch_ev hn _ t (fun g hg => List.mem_range.1 (List.mem_filter.1 hg).1) ht), Ev.now_iff]
 | false =>
  have hgl := mns_lt (n := n) t hf
  have hcl := mns_lt (n := n) f ht
  simp only [Bool.false_eq_true, ↓reduceIte]
  rw [gandn _ _ (lt62 hn hf) (lt62 hn ht), gandn _ _ (lt62 hn ht) (lt62 hn hf), ones_bl hn hgl]
  simp only [Option.bind_some, Ev.ite_iff]
  by_cases h1 : (bl n (mns f t)).length = 1
  ·have hg := one_of_len hgl h1
   have hc := one_of_len hcl (by rw [← out_same hlen];exact h1)
   have h0 : mns f t ≠ 0 := by
    intro e;rw [e] at h1
    have : bl n 0 = [] := by unfold bl;simp
    rw [this] at h1;simp at h1
   have h0c : mns t f ≠ 0 := by
    intro e;rw [e] at hc
    have : bl n 0 = [] := by unfold bl;simp
    rw [this] at hc;simp at hc
   obtain ⟨hgn, hgb⟩ := lowM_use hgl h0
   obtain ⟨hcn, hcb⟩ := lowM_use hcl h0c
   rw [if_pos (by omega), tz_ev hn hgl h0]
   simp only [Option.bind_some, Ev.ite_iff, nets_len]
   rw [if_pos (by omega), if_pos (by omega), Ev.now_iff, nets_rd hgn, gand _ _ (lt62 hn (nb_lt _ _ _)) (lt62 hn hcl), decide_eq_true h1, Bool.true_and, hg, hc]
   show (((nb es n (lowM n (mns f t)) &&& mns t f : Nat) : Int) != 0) = near es (lowM n (mns f t) : Nat) (lowM n (mns t f) : Nat)
   have hbit := nb_bit es n (lowM n (mns f t)) (lowM n (mns t f))
   cases hnr : near es (lowM n (mns f t) : Nat) (lowM n (mns t f) : Nat) with
   | true =>
    have : nb es n (lowM n (mns f t)) &&& mns t f ≠ 0 := by
     intro e
     have h3 := congrArg (fun z => z.testBit (lowM n (mns t f))) e
     simp only [Nat.testBit_and, hbit, hnr, hcb, Nat.zero_testBit, Bool.and_true] at h3
     simp [hcn] at h3
    simp only [bne_iff_ne, ne_eq];omega
   | false =>
    have : nb es n (lowM n (mns f t)) &&& mns t f = 0 := by
     refine Nat.eq_of_testBit_eq (fun i => ?_)
     rw [Nat.testBit_and, Nat.zero_testBit]
     by_cases hi : (mns t f).testBit i = true
     ·have hin : i < n := by
       rcases Nat.lt_or_ge i n with g | g
       ·exact g
       ·rw [bit_lt hcl g] at hi;cases hi
      have hm := mem_bl_nat.2 ⟨hin, hi⟩
      rw [hc, List.mem_singleton] at hm
      have : i = lowM n (mns t f) := by omega
      rw [this, hbit, hnr];simp
     ·rw [Bool.eq_false_iff.2 hi, Bool.and_false]
    rw [this];rfl
  ·rw [if_neg (by omega), Ev.now_iff, decide_eq_false h1, Bool.false_and]

def nI (l : List Nat) : List Int := l.map (fun z : Nat => (z : Int))

theorem nI_len (l : List Nat) : (nI l).length = l.length := by simp [nI]

theorem rd_nI (l : List Nat) (i : Nat) (h : i < l.length) : rd (nI l) (i : Int) = ((l[i] : Nat) : Int) := by
 rw [rd_lt _ i (by rw [nI_len];exact h)];simp [nI]

def grd (L : List (List Int)) (i : Nat) : List Int := L.getD i []

theorem rdL2_nat (L : List (List Int)) (i : Nat) : rd_L2 L (i : Int) = grd L i := rfl

theorem grd_lt {L : List (List Int)} {i : Nat} (h : i < L.length) : grd L i = L[i] := by simp [grd, h]

def hasG (L : List (List Int)) (j : Nat) (x : Int) : Bool := decide (x ∈ grd L j)

def mvG (es : List S78) (n : Nat) (all : Bool) (L : List (List Int)) (i j : Nat) : Bool := movesM es n (mL (grd L i)) (mL (grd L j)) all

def ansG (es : List S78) (n : Nat) (all : Bool) (L : List (List Int)) (i : Nat) (x : Int) : List Nat := (List.range L.length).filter fun j => hasG L j x && mvG es n all L i j

def mvsG (es : List S78) (n : Nat) (all : Bool) (L : List (List Int)) (i : Nat) : List Nat := (List.range L.length).filter fun j => mvG es n all L i j

structure Gm (es : List S78) (n : Nat) (L : List (List Int)) : Prop where
 hn : n ≤ 8
 len : L.length ≤ 256
 row : ∀ i, i < L.length → ∃ m, m < 2 ^ n ∧ grd L i = bl n m
 same : ∀ i j, i < L.length → j < L.length → (grd L i).length = (grd L j).length

theorem gm_short {es : List S78} {n : Nat} {L : List (List Int)} (G : Gm es n L) {i : Nat} (hi : i < L.length) : (grd L i).length ≤ 8 := by
 obtain ⟨m, _, h⟩ := G.row i hi
 have := bl_len_le n m
 have := G.hn
 rw [h];omega

theorem nI_app (l m : List Nat) : nI (l ++ m) = nI l ++ nI m := by simp [nI]

theorem nI_filter_len (m : Nat) (p : Nat → Bool) : (nI ((List.range m).filter p)).length ≤ m := by
 have := List.length_filter_le p (List.range m)
 rw [List.length_range] at this
 rw [nI_len];exact this

end Go.Proofs.YtgahlimikndecaaDoor.QEternalFamily
