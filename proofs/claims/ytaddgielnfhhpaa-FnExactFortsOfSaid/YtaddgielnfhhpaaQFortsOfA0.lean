import Derived.Test.YtaddgielnfhhpaaQFortsOf0
import Derived.Test.YtaddgielnfhhpaaQFortsOf10
import Derived.Test.YtaddgielnfhhpaaQFortsOf5
import Derived.Test.YtaddgielnfhhpaaQFortsOf6
import Derived.Laws.BitsLemmas
namespace Go.Proofs.Ytaddgielnfhhpaa.QFortsOf
open Go.RowKit Go.Proofs.YtaddgielnfhhpaaW.PrintWords Go.Proofs.YtaddgielnfhhpaaW.PrintLast Go.Proofs.YtaddgielnfhhpaaW.PrintMore
attribute [local go_sem] max2_int min2_int max_two min_two max_three min_three max_four min_four   -- for this text's walks alone
set_option linter.unusedVariables false
set_option linter.unusedSimpArgs false
theorem Ev.iff_succ {α : Type} {g : Nat → Option α} {r : α} : Ev g r ↔ Ev (fun k => g (k + 1)) r := by
 constructor
 ·rintro ⟨K, h⟩;exact ⟨K, fun k hk => h _ (by omega)⟩
 ·rintro ⟨K, h⟩
  refine ⟨K + 1, fun k hk => ?_⟩
  obtain ⟨j, rfl⟩ : ∃ j, k = j + 1 := ⟨k - 1, by omega⟩
  exact h j (by omega)

theorem Ev.now_iff {α : Type} {x r : α} : Ev (fun _ => some x) r ↔ x = r := by
 constructor
 ·rintro ⟨K, h⟩;exact Option.some.inj (h K (Nat.le_refl _))
 ·rintro rfl;exact Ev.now _

theorem Ev.none_iff {α : Type} {r : α} : Ev (fun _ => (none : Option α)) r ↔ False := by
 constructor
 ·rintro ⟨K, h⟩;have := h K (Nat.le_refl _);simp at this
 ·simp

theorem Ev.bind_iff {α β : Type} {g : Nat → Option α} {f : Nat → α → Option β} {a : α} {r : β} (h : Ev g a) : Ev (fun n => (g n).bind (f n)) r ↔ Ev (fun n => f n a) r := by
 constructor
 ·rintro ⟨K, hk⟩
  obtain ⟨J, hj⟩ := h
  refine ⟨K + J, fun k hk' => ?_⟩
  have := hk k (by omega)
  simp only [hj k (by omega), Option.bind_some] at this
  exact this
 ·exact Ev.bind h

theorem Ev.ite_iff {α : Type} {c : Prop} [Decidable c] {a b : Nat → Option α} {r : α} : Ev (fun k => if c then a k else b k) r ↔ if c then Ev a r else Ev b r := by
 by_cases h : c <;> simp [h]

theorem rd_lt (l : List Int) (i : Nat) (h : i < l.length) : rd l (i : Int) = l[i] := by simp [rd, h]

theorem w64_succ (i : Nat) (h : i < 9223372036854775807) : wrap64 ((i : Int) + 1) = ((i + 1 : Nat) : Int) := by rw [w64] <;> omega

/-- Downwards: from the end of a loop to its begin. -/
theorem down (n : Nat) (P : Nat → Prop) (h0 : P n) (h1 : ∀ i, i < n → P (i + 1) → P i) : ∀ i, i ≤ n → P i := by
  intro i hi
  obtain ⟨d, hd⟩ : ∃ d, d = n - i := ⟨_, rfl⟩
  induction d generalizing i with
  | zero => obtain rfl : i = n := by omega
            exact h0
  | succ d ih => exact h1 i (by omega) (ih (i + 1) (by omega) (by omega))

theorem l1Has_ev (l : List Int) (a : Int) (hl : l.length ≤ 9223372036854775807) : Ev (fun k => spec_l1Has.f k l a) (decide (a ∈ l)) := by
 have H := down l.length (fun i => Ev (fun k => spec_l1Has.l0 k l a i) (decide (a ∈ l.drop i))) ?_ ?_ 0 (by omega)
 ·simpa [spec_l1Has.f] using H
 ·show Ev _ _
  rw [Ev.iff_succ]
  simp [spec_l1Has.l0, Ev.now_iff]
 ·intro i hi ih
  show Ev _ _
  rw [Ev.iff_succ]
  have h1 : (i : Int) < l.length := by omega
  have h2 : (0 : Int) ≤ i := by omega
  simp only [spec_l1Has.l0, Ev.ite_iff, h1, h2, ↓reduceIte, w64_succ i (by omega), Ev.now_iff, rd_lt l i hi, List.drop_eq_getElem_cons hi, List.mem_cons]
  split
  ·rename_i h;simp [h]
  ·rename_i h;simpa [show ¬ a = l[i] from fun e => h e.symm] using ih

/-- Numbers strictly ascending, behind one that may stand ahead. -/
def ascB : Option Int → List Int → Bool
 | _, [] => true
 | p, a :: s => p.all (fun q => decide (q < a)) && ascB (some a) s

theorem i64_wrap_id (n : Int) (h0 : 0 ≤ n) (h1 : n < 2 ^ 62) : IntKind.i64.wrap n = n := by rw [IntKind.wrap_i64]; omega

theorem gor (a b : Nat) (ha : a < 2 ^ 62) (hb : b < 2 ^ 62) : Go.bits .or .i64 (a : Int) (b : Int) = ((a ||| b : Nat) : Int) :=
 (bits_nat .i64 62 (by decide) i64_wrap_id a b ha hb).2

theorem gand (a b : Nat) (ha : a < 2 ^ 62) (hb : b < 2 ^ 62) : Go.bits .and .i64 (a : Int) (b : Int) = ((a &&& b : Nat) : Int) :=
 (bits_nat .i64 62 (by decide) i64_wrap_id a b ha hb).1

/-- The set of those below n that p tells. -/
def mk : Nat → (Nat → Bool) → Nat
 | 0, _ => 0
 | n + 1, p => mk n p ||| (if p n then 2 ^ n else 0)

theorem mk_bit (n : Nat) (p : Nat → Bool) (i : Nat) : (mk n p).testBit i = (decide (i < n) && p i) := by
 induction n with
 | zero => simp [mk]
 | succ n ih =>
  simp only [mk, Nat.testBit_or, ih]
  by_cases h : i = n
  ·subst h
   cases hp : p i <;> simp
  ·have e : (if p n = true then 2 ^ n else 0).testBit i = false := by
    split
    ·rw [Nat.testBit_two_pow];simp;omega
    ·simp
   rw [e, Bool.or_false]
   by_cases h2 : i < n
   ·simp [h2, show i < n + 1 by omega]
   ·simp [h2, show ¬ i < n + 1 by omega]

theorem bit_lt {n m i : Nat} (h : m < 2 ^ n) (hi : n ≤ i) : m.testBit i = false := Nat.testBit_lt_two_pow (Nat.lt_of_lt_of_le h (Nat.pow_le_pow_right (by decide) hi))

theorem lt_of_bits {n m : Nat} (h : ∀ i, n ≤ i → m.testBit i = false) : m < 2 ^ n := Nat.lt_pow_two_of_testBit m h

theorem mk_lt (n : Nat) (p : Nat → Bool) : mk n p < 2 ^ n := lt_of_bits fun i hi => by rw [mk_bit]; simp; omega

/-- Two sets of nodes below n are one if they have the same nodes. -/
theorem mask_ext {n a b : Nat} (ha : a < 2 ^ n) (hb : b < 2 ^ n) (h : ∀ i, i < n → a.testBit i = b.testBit i) : a = b := by
 apply Nat.eq_of_testBit_eq
 intro i
 by_cases hi : i < n
 ·exact h i hi
 ·rw [bit_lt ha (by omega), bit_lt hb (by omega)]

theorem p8 {n : Nat} (h : n ≤ 8) : 2 ^ n ≤ 256 := Nat.pow_le_pow_right (by decide) h

/-- The nodes of a set, ascending. -/
def bl (n m : Nat) : List Int := ((List.range n).filter (fun x => m.testBit x)).map (fun x => Int.ofNat x)

theorem mem_bl {n m : Nat} {x : Int} : x ∈ bl n m ↔ ∃ i, i < n ∧ m.testBit i = true ∧ x = (i : Int) := by
 simp only [bl, List.mem_map, List.mem_filter, List.mem_range]
 constructor
 ·rintro ⟨i, ⟨h1, h2⟩, rfl⟩;exact ⟨i, h1, h2, rfl⟩
 ·rintro ⟨i, h1, h2, rfl⟩;exact ⟨i, ⟨h1, h2⟩, rfl⟩

theorem mem_bl_nat {n m i : Nat} : (i : Int) ∈ bl n m ↔ i < n ∧ m.testBit i = true := by
 rw [mem_bl]
 constructor
 ·rintro ⟨j, h1, h2, h3⟩;have : i = j := by omega
  subst this;exact ⟨h1, h2⟩
 ·rintro ⟨h1, h2⟩;exact ⟨i, h1, h2, rfl⟩

theorem bl_len_le (n m : Nat) : (bl n m).length ≤ n := by
 simp only [bl, List.length_map]
 exact Nat.le_trans (List.length_filter_le _ _) (by simp)

/-- A list of nodes as a set. -/
def mL : List Int → Nat
 | [] => 0
 | x :: s => 2 ^ x.toNat ||| mL s

theorem mL_bit {l : List Int} (h : ∀ x ∈ l, 0 ≤ x) (i : Nat) : (mL l).testBit i = decide ((i : Int) ∈ l) := by
 induction l with
 | nil => simp [mL]
 | cons x s ih =>
  have hx := h x (by simp)
  simp only [mL, Nat.testBit_or, ih (fun y hy => h y (by simp [hy])), Nat.testBit_two_pow]
  by_cases e : (i : Int) = x
  ·subst e;simp
  ·have : ¬ x.toNat = i := by omega
   simp [this, e]

theorem mL_lt {n : Nat} {l : List Int} (h : ∀ x ∈ l, 0 ≤ x ∧ x < n) : mL l < 2 ^ n := lt_of_bits fun i hi => by
 rw [mL_bit (fun x hx => (h x hx).1)]
 simp only [decide_eq_false_iff_not]
 intro hm
 have := h _ hm
 omega

/-- Ascending lists of the same numbers are one. -/
theorem asc_lt : ∀ {l : List Int} {a : Int}, ascB (some a) l = true → ∀ x ∈ l, a < x
 | [], _, _, x, hx => by cases hx
 | b :: l, a, h, x, hx => by
  simp only [ascB, Option.all_some, Bool.and_eq_true, decide_eq_true_eq] at h
  rcases List.mem_cons.1 hx with rfl | hx
  ·exact h.1
  ·have := asc_lt h.2 x hx
   omega

theorem asc_tail {l : List Int} {p : Option Int} {a : Int} (h : ascB p (a :: l) = true) : ascB (some a) l = true := by
 simp only [ascB, Bool.and_eq_true] at h
 exact h.2

theorem asc_ext : ∀ {l k : List Int} {p q : Option Int}, ascB p l = true → ascB q k = true → (∀ x, x ∈ l ↔ x ∈ k) → l = k
 | [], [], _, _, _, _, _ => rfl
 | [], b :: k, _, _, _, _, h => by have := (h b).2 (by simp);cases this
 | a :: l, [], _, _, _, _, h => by have := (h a).1 (by simp);cases this
 | a :: l, b :: k, p, q, hl, hk, h => by
  have h1 := asc_lt (asc_tail hl)
  have h2 := asc_lt (asc_tail hk)
  have hab : a = b := by
   have ha := (h a).1 (by simp)
   have hb := (h b).2 (by simp)
   rcases List.mem_cons.1 ha with e | ha
   ·exact e
   ·rcases List.mem_cons.1 hb with e | hb
    ·exact e.symm
    ·have := h1 b hb;have := h2 a ha;omega
  subst hab
  rw [asc_ext (asc_tail hl) (asc_tail hk) (fun x => ?_)]
  constructor
  ·intro hx
   rcases List.mem_cons.1 ((h x).1 (by simp [hx])) with e | hx'
   ·have := h1 x hx;omega
   ·exact hx'
  ·intro hx
   rcases List.mem_cons.1 ((h x).2 (by simp [hx])) with e | hx'
   ·have := h2 x hx;omega
   ·exact hx'

theorem asc_of_pairwise : ∀ {l : List Int} {p : Option Int}, l.Pairwise (· < ·) → (∀ q, p = some q → ∀ x ∈ l, q < x) → ascB p l = true
 | [], _, _, _ => rfl
 | a :: l, p, h, hp => by
  rw [List.pairwise_cons] at h
  simp only [ascB, Bool.and_eq_true]
  refine ⟨?_, asc_of_pairwise h.2 (fun q hq x hx => ?_)⟩
  ·cases p with
   | none => rfl
   | some q => simp only [Option.all_some, decide_eq_true_eq];exact hp q rfl a (by simp)
  ·cases hq;exact h.1 x hx

theorem bl_pairwise (n m : Nat) : (bl n m).Pairwise (· < ·) := by
 unfold bl
 rw [List.pairwise_map]
 exact (List.pairwise_lt_range.filter _).imp (fun h => by simpa using h)

theorem bl_asc (n m : Nat) : ascB none (bl n m) = true := asc_of_pairwise (bl_pairwise n m) (fun q hq => by cases hq)

theorem mL_bl {n m : Nat} (h : m < 2 ^ n) : mL (bl n m) = m := by
 have h0 : ∀ x ∈ bl n m, 0 ≤ x ∧ x < n := fun x hx => by obtain ⟨i, h1, _, rfl⟩ := mem_bl.1 hx;omega
 refine mask_ext (mL_lt h0) h (fun i hi => ?_)
 rw [mL_bit (fun x hx => (h0 x hx).1)]
 by_cases c : m.testBit i = true
 ·simp [mem_bl_nat, hi, c]
 ·have : ¬ (i : Int) ∈ bl n m := by rw [mem_bl_nat];simp [c]
  simp [this, Bool.eq_false_iff.2 c]

theorem bl_inj {n a b : Nat} (ha : a < 2 ^ n) (hb : b < 2 ^ n) (h : bl n a = bl n b) : a = b := by rw [← mL_bl ha, ← mL_bl hb, h]

/-- Are two numbers an edge, in either order? -/
def near (es : List S80) (a b : Int) : Bool := es.any fun e => decide (e.f0 = a ∧ e.f1 = b ∨ e.f0 = b ∧ e.f1 = a)

/-- The neighbors of a node, as a set. -/
def nb (es : List S80) (n x : Nat) : Nat := mk n (fun y => near es x y)

theorem nb_lt (es : List S80) (n x : Nat) : nb es n x < 2 ^ n := mk_lt _ _

theorem nb_bit (es : List S80) (n x y : Nat) : (nb es n x).testBit y = (decide (y < n) && near es x y) := mk_bit _ _ _

theorem dropE (es : List S80) (i : Nat) (h : i < es.length) : ∃ a s, es.drop i = a :: s ∧ es.drop (i + 1) = s ∧ rd_T80 es i = a ∧ es[i] = a :=
 ⟨es[i], es.drop (i + 1), List.drop_eq_getElem_cons h, rfl, by simp [rd_T80, h], rfl⟩

theorem l2Near_ev (n : Int) (es : List S80) (a b : Int) (hl : es.length ≤ 9223372036854775807) : Ev (fun k => spec_l2Near.f k n es a b) (near es a b) := by
 have H := down es.length (fun i => Ev (fun k => spec_l2Near.l0 k a b i n es) (near (es.drop i) a b)) ?_ ?_ 0 (by omega)
 ·simpa [spec_l2Near.f] using H
 ·show Ev _ _
  rw [Ev.iff_succ]
  simp [spec_l2Near.l0, Ev.now_iff, near]
 ·intro i hi ih
  show Ev _ _
  rw [Ev.iff_succ]
  have h1 : (i : Int) < es.length := by omega
  have h2 : (0 : Int) ≤ i := by omega
  obtain ⟨e, s, e1, e2, e3, e4⟩ := dropE es i hi
  rw [e1];rw [e2] at ih
  simp only [spec_l2Near.l0, Ev.ite_iff, h1, h2, ↓reduceIte, w64_succ i (by omega), Ev.now_iff, Ev.none_iff, e3]
  by_cases h : e.f0 = a ∧ e.f1 = b ∨ e.f0 = b ∧ e.f1 = a
  ·have hn : near (e :: s) a b = true := by simp only [near, List.any_cons, h, decide_true, Bool.true_or]
   rw [hn]
   split
   ·split
    ·rfl
    ·split
     ·split
      ·rfl
      ·omega
     ·omega
   ·split
    ·split
     ·rfl
     ·omega
    ·omega
  ·have hn : near (e :: s) a b = near s a b := by simp only [near, List.any_cons, h, decide_false, Bool.false_or]
   rw [hn]
   split
   ·split
    ·omega
    ·split
     ·split
      ·omega
      ·exact ih
     ·exact ih
   ·split
    ·split
     ·omega
     ·exact ih
    ·exact ih

theorem filter_range_succ (n : Nat) (p : Nat → Bool) : ((List.range (n + 1)).filter p) = (List.range n).filter p ++ (if p n then [n] else []) := by
 rw [List.range_succ, List.filter_append];congr 1;simp [List.filter_cons]

theorem bl_step {n m i : Nat} (hi : i < n) : bl (i + 1) m = bl i m ++ (if m.testBit i then [(i : Int)] else []) := by
 unfold bl
 rw [filter_range_succ]
 split <;> simp_all

theorem l2Neighbors_ev (n : Nat) (es : List S80) (x : Nat) (hn : n ≤ 8) (hl : es.length ≤ 9223372036854775807) : Ev (fun k => spec_l2Neighbors.f k n es x) (bl n (nb es n x)) := by
 have H := down n (fun i => Ev (fun k => spec_l2Neighbors.l0 k x (bl i (nb es n x)) i n es) (bl n (nb es n x))) ?_ ?_ 0 (by omega)
 ·simpa [spec_l2Neighbors.f, bl] using H
 ·show Ev _ _
  rw [Ev.iff_succ]
  simp [spec_l2Neighbors.l0, Ev.now_iff]
 ·intro i hi ih
  show Ev _ _
  rw [Ev.iff_succ]
  have h1 : (i : Int) < (n : Int) := by omega
  have h3 := bl_len_le i (nb es n x)
  have h2 : (bl i (nb es n x)).length < 17592186044416 := by omega
  rw [bl_step hi, nb_bit] at ih
  simp only [spec_l2Neighbors.l0, Ev.ite_iff, h1, ↓reduceIte, w64_succ i (by omega), Ev.bind_iff (l2Near_ev n es x i hl), h2]
  split
  ·rename_i c;simpa [c, hi] using ih
  ·rename_i c;simpa [c, hi] using ih

/-- The numbers of a list that another one lacks. -/
def lack (set l : List Int) : List Int := l.filter (fun y => !decide (y ∈ set))

theorem l5Among_ev (n : Nat) (es : List S80) (set : List Int) (x : Nat) (hn : n ≤ 8) (hl : es.length ≤ 9223372036854775807) (hs : set.length ≤ 9223372036854775807) :
  Ev (fun k => spec_l5Among.f k n es set x) (lack set (bl n (nb es n x))) := by
 have hlen := bl_len_le n (nb es n x)
 unfold spec_l5Among.f
 rw [Ev.bind_iff (l2Neighbors_ev n es x hn hl)]
 generalize bl n (nb es n x) = l at hlen ⊢
 have H := down l.length (fun i => Ev (fun k => spec_l5Among.l0 k set (lack set (l.take i)) l i) (lack set l)) ?_ ?_ 0 (by omega)
 ·simpa [lack] using H
 ·show Ev _ _
  rw [Ev.iff_succ]
  simp [spec_l5Among.l0, Ev.now_iff]
 ·intro i hi ih
  show Ev _ _
  rw [Ev.iff_succ]
  have h1 : (i : Int) < l.length := by omega
  have h2 : (0 : Int) ≤ i := by omega
  have h3 : (lack set (l.take i)).length < 17592186044416 := by
   have := List.length_filter_le (fun y => !decide (y ∈ set)) (l.take i)
   have h4 : (l.take i).length ≤ i := List.length_take_le _ _
   simp only [lack];omega
  have h5 : lack set (l.take (i + 1)) = lack set (l.take i) ++ (if decide (l[i] ∈ set) then [] else [l[i]]) := by
   rw [List.take_succ_eq_append_getElem hi]
   simp only [lack, List.filter_append]
   congr 1
   by_cases c : l[i] ∈ set <;> simp [c]
  rw [h5] at ih
  simp only [spec_l5Among.l0, Ev.ite_iff, h1, h2, h3, ↓reduceIte, w64_succ i (by omega), Ev.bind_iff (l1Has_ev set _ hs), rd_lt l i hi]
  split
  ·rename_i c;simpa [c] using ih
  ·rename_i c;simpa [c] using ih

theorem lack_bl {n m s : Nat} : lack (bl n s) (bl n m) = bl n (mk n fun y => m.testBit y && !s.testBit y) := by
 refine asc_ext (asc_of_pairwise (p := none) ((bl_pairwise n m).filter _) (fun q hq => by cases hq)) (bl_asc n _) (fun x => ?_)
 simp only [lack, List.mem_filter, mem_bl, mk_bit]
 constructor
 ·rintro ⟨⟨i, h1, h2, rfl⟩, h3⟩
  refine ⟨i, h1, ?_, rfl⟩
  simp only [Bool.not_eq_true', decide_eq_false_iff_not] at h3
  have : s.testBit i = false := by
   cases hs : s.testBit i with
   | false => rfl
   | true => exact absurd ⟨i, h1, hs, rfl⟩ h3
  simp [h1, h2, this]
 ·rintro ⟨i, h1, h2, rfl⟩
  simp only [Bool.and_eq_true, decide_eq_true_eq, Bool.not_eq_true'] at h2
  refine ⟨⟨i, h1, h2.2.1, rfl⟩, ?_⟩
  simp only [Bool.not_eq_true', decide_eq_false_iff_not]
  rintro ⟨j, _, hj, e⟩
  obtain rfl : i = j := by omega
  rw [h2.2.2] at hj;exact absurd hj (by simp)

/-- The rows of a net: of each node the set of those that q tells. -/
def netW (n : Nat) (q : Nat → Nat → Bool) : List Int := (List.range n).map (fun x => Int.ofNat (mk n (q x)))

theorem netW_rd {n : Nat} {q : Nat → Nat → Bool} {i : Nat} (h : i < n) : rd (netW n q) i = (mk n (q i) : Nat) := by simp [rd, netW, h]

theorem netW_set {n : Nat} {q : Nat → Nat → Bool} {i : Nat} {p : Nat → Bool} (_ : i < n) : (netW n q).set i (Int.ofNat (mk n p)) = netW n (fun x => if x = i then p else q x) := by
 apply List.ext_getElem
 ·simp [netW]
 ·intro j h1 h2
  simp only [List.getElem_set, netW, List.getElem_map, List.getElem_range]
  by_cases e : i = j
  ·subst e;simp
  ·simp [e, show ¬ j = i from fun h => e h.symm]

theorem shl_one {j : Nat} (h : j < 62) : shl .i64 1 (j : Int) = ((2 ^ j : Nat) : Int) := by
 unfold shl
 have hb : IntKind.bits .i64 = 64 := rfl
 have h1 : (2 : Nat) ^ j < 2 ^ 62 := Nat.pow_lt_pow_right (by decide) h
 rw [Int.toNat_natCast, hb, Nat.min_eq_left (by omega), Int.one_mul, i64_wrap_id]
 ·simp
 ·exact Int.pow_nonneg (by decide)
 ·exact_mod_cast h1

theorem mk_or_pow {n : Nat} {p : Nat → Bool} {j : Nat} (h : j < n) : mk n p ||| 2 ^ j = mk n (fun y => p y || y == j) := by
 refine mask_ext (n := n) (Nat.or_lt_two_pow (mk_lt _ _) (Nat.pow_lt_pow_right (by decide) h)) (mk_lt _ _) (fun i hi => ?_)
 rw [Nat.testBit_or, mk_bit, mk_bit, Nat.testBit_two_pow]
 by_cases e : j = i
 ·subst e;simp [hi]
 ·simp [hi, e, show ¬ i = j from fun h => e h.symm]

theorem mk_lt62 {n : Nat} (p : Nat → Bool) (hn : n ≤ 8) : mk n p < 2 ^ 62 := Nat.lt_of_lt_of_le (mk_lt n p) (Nat.pow_le_pow_right (by decide) (by omega))

theorem netStep_W {n : Nat} {q : Nat → Nat → Bool} {e : S80} (hn : n ≤ 8) (he : edgeOk n e = true) :
  netStep (netW n q) e = netW n (fun x y => q x y || decide (e.f0 = (x : Int) ∧ e.f1 = (y : Int) ∨ e.f0 = (y : Int) ∧ e.f1 = (x : Int))) := by
 simp only [edgeOk, decide_eq_true_eq] at he
 obtain ⟨a, b⟩ := e
 simp only at he
 obtain ⟨i, rfl⟩ : ∃ i : Nat, a = i := ⟨a.toNat, by omega⟩
 obtain ⟨j, rfl⟩ : ∃ j : Nat, b = j := ⟨b.toNat, by omega⟩
 have hi : i < n := by omega
 have hj : j < n := by omega
 have hp : ∀ {k : Nat}, k < n → 2 ^ k < 2 ^ 62 := fun h => Nat.pow_lt_pow_right (by decide) (by omega)
 simp only [netStep, Int.toNat_natCast]
 rw [netW_rd hi, shl_one (by omega), gor _ _ (mk_lt62 _ hn) (hp hj), mk_or_pow hj]
 rw [show ((mk n fun y => q i y || y == j : Nat) : Int) = Int.ofNat (mk n fun y => q i y || y == j) from rfl, netW_set hi]
 rw [netW_rd hj, shl_one (by omega), gor _ _ (mk_lt62 _ hn) (hp hi), mk_or_pow hi]
 rw [show ∀ z : Nat, (z : Int) = Int.ofNat z from fun _ => rfl, netW_set hj]
 congr 1
 funext x y
 have hij : i ≠ j := by omega
 rw [Bool.eq_iff_iff]
 by_cases e1 : x = j
 ·subst e1
  rw [if_pos rfl, if_neg (Ne.symm hij)]
  simp only [Bool.or_eq_true, beq_iff_eq, decide_eq_true_eq, and_true, true_and]
  constructor
  ·rintro (h | h)
   ·exact .inl h
   ·right;omega
  ·rintro (h | h)
   ·exact .inl h
   ·right;omega
 ·rw [if_neg e1]
  by_cases e3 : x = i
  ·subst e3
   rw [if_pos rfl]
   simp only [Bool.or_eq_true, beq_iff_eq, decide_eq_true_eq, and_true, true_and]
   constructor
   ·rintro (h | h)
    ·exact .inl h
    ·right;omega
   ·rintro (h | h)
    ·exact .inl h
    ·right;omega
  ·rw [if_neg e3]
   simp only [Bool.or_eq_true, decide_eq_true_eq]
   constructor
   ·exact .inl
   ·rintro (h | h)
    ·exact h
    ·omega

theorem netW_fold {n : Nat} (hn : n ≤ 8) : ∀ (es : List S80) (q : Nat → Nat → Bool), (∀ e ∈ es, edgeOk n e = true) → es.foldl netStep (netW n q) = netW n (fun x y => q x y || near es x y)
 | [], q, _ => by simp [near]
 | e :: es, q, h => by
  rw [List.foldl_cons, netStep_W hn (h e (by simp)), netW_fold hn es _ (fun x hx => h x (by simp [hx]))]
  congr 1
  funext x y
  simp only [near, List.any_cons, Bool.or_assoc]

/-- The rows of the net of a graph. -/
def nets (es : List S80) (n : Nat) : List Int := (List.range n).map (fun x => Int.ofNat (nb es n x))

theorem nets_len (es : List S80) (n : Nat) : (nets es n).length = n := by simp [nets]

theorem nets_rd {es : List S80} {n i : Nat} (h : i < n) : rd (nets es n) i = (nb es n i : Nat) := by simp [rd, nets, h]

def okG (n : Int) (es : List S80) : Bool := decide (0 ≤ n ∧ n ≤ 8) && goodL n none es

theorem netOf_eq {n : Nat} {es : List S80} (h : okG n es = true) : impl_netOf.f n es = some (nets es n) := by
 have h2 := h
 simp only [okG, Bool.and_eq_true, decide_eq_true_eq] at h2
 have hn : n ≤ 8 := by omega
 have hz : List.replicate n (0 : Int) = netW n (fun _ _ => false) := by
  apply List.ext_getElem
  ·simp [netW]
  ·intro i h1 h3
   have hm : mk n (fun _ => false) = 0 := mask_ext (n := n) (mk_lt _ _) (Nat.two_pow_pos n) (fun i _ => by rw [mk_bit];simp)
   simp [netW, hm]
 show (if okG n es = true then some (es.foldl netStep (List.replicate (n : Int).toNat 0)) else none) = _
 rw [if_pos h, Int.toNat_natCast, hz, netW_fold hn es _ (goodL_all h2.2)]
 simp [netW, nets, nb]

/-- What one set has and another one lacks. -/
def mns (a b : Nat) : Nat := a ^^^ (a &&& b)

theorem mns_bit (a b i : Nat) : (mns a b).testBit i = (a.testBit i && !b.testBit i) := by
 unfold mns
 rw [Nat.testBit_xor, Nat.testBit_and]
 cases a.testBit i <;> cases b.testBit i <;> rfl

theorem mns_lt {n a : Nat} (b : Nat) (h : a < 2 ^ n) : mns a b < 2 ^ n := lt_of_bits fun i hi => by rw [mns_bit, bit_lt h hi]; rfl

theorem gandn (a b : Nat) (ha : a < 2 ^ 62) (hb : b < 2 ^ 62) : Go.bits .andNot .i64 (a : Int) (b : Int) = ((mns a b : Nat) : Int) := by
 have h1 : (BitVec.ofNat 64 a &&& ~~~ BitVec.ofNat 64 b).toNat = mns a b := by
  apply Nat.eq_of_testBit_eq
  intro i
  rw [BitVec.testBit_toNat, mns_bit, BitVec.getLsbD_and, BitVec.getLsbD_not, BitVec.getLsbD_ofNat, BitVec.getLsbD_ofNat]
  by_cases hi : i < 64
  ·simp [hi]
  ·have h62 : ∀ {c : Nat}, c < 2 ^ 62 → c.testBit i = false := fun h => bit_lt h (by omega)
   simp [hi, h62 ha]
 have h2 : mns a b < 2 ^ 62 := mns_lt b ha
 show IntKind.i64.wrap (((BitVec.ofInt 64 (a : Int) &&& ~~~ BitVec.ofInt 64 (b : Int)).toNat : Nat) : Int) = _
 rw [BitVec.ofInt_natCast, BitVec.ofInt_natCast, h1]
 exact i64_wrap_id _ (by omega) (by exact_mod_cast h2)

end Go.Proofs.Ytaddgielnfhhpaa.QFortsOf
