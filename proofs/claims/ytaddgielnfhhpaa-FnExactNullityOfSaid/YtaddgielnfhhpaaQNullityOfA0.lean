import Derived.Test.YtaddgielnfhhpaaQNullityOf0
import Derived.Test.YtaddgielnfhhpaaQNullityOf1
import Derived.Test.YtaddgielnfhhpaaQNullityOf2
import Derived.Test.YtaddgielnfhhpaaQNullityOf4
import Derived.Test.YtaddgielnfhhpaaQNullityOf5
import Derived.Test.YtaddgielnfhhpaaQNullityOf6
import Derived.Test.YtaddgielnfhhpaaQNullityOf8
import Derived.Test.YtaddgielnfhhpaaQNullityOf9
import Derived.Laws.BitsLemmas
namespace Go.Proofs.Ytaddgielnfhhpaa.QNullityOf
open Go.RowKit Go.Proofs.YtaddgielnfhhpaaW.PrintWords Go.Proofs.YtaddgielnfhhpaaW.PrintLast Go.Proofs.YtaddgielnfhhpaaW.PrintMore
attribute [local go_sem] max2_int min2_int max_two min_two max_three min_three max_four min_four   -- for this text's walks alone
set_option linter.unusedVariables false
set_option linter.unusedSimpArgs false
theorem Ev.iff_succ {α : Type} {g : Nat → Option α} {r : α} : Ev g r ↔ Ev (fun k => g (k + 1)) r := by
 constructor
 ·rintro ⟨K, h⟩;exact ⟨K, fun k hk => h _ (by omega)⟩
 ·rintro ⟨K, h⟩
  refine ⟨K + 1, fun k hk => ?_⟩
  obtain ⟨j, rfl⟩ : ∃ j, k = j + 1 := ⟨k - 1, by omega⟩
  exact h j (by omega)

theorem Ev.now_iff {α : Type} {x r : α} : Ev (fun _ => some x) r ↔ x = r := by
 constructor
 ·rintro ⟨K, h⟩;exact Option.some.inj (h K (Nat.le_refl _))
 ·rintro rfl;exact Ev.now _

theorem Ev.none_iff {α : Type} {r : α} : Ev (fun _ => (none : Option α)) r ↔ False := by
 constructor
 ·rintro ⟨K, h⟩;have := h K (Nat.le_refl _);simp at this
 ·simp

theorem Ev.bind_iff {α β : Type} {g : Nat → Option α} {f : Nat → α → Option β} {a : α} {r : β} (h : Ev g a) : Ev (fun n => (g n).bind (f n)) r ↔ Ev (fun n => f n a) r := by
 constructor
 ·rintro ⟨K, hk⟩
  obtain ⟨J, hj⟩ := h
  refine ⟨K + J, fun k hk' => ?_⟩
  have := hk k (by omega)
  simp only [hj k (by omega), Option.bind_some] at this
  exact this
 ·exact Ev.bind h

theorem Ev.ite_iff {α : Type} {c : Prop} [Decidable c] {a b : Nat → Option α} {r : α} : Ev (fun k => if c then a k else b k) r ↔ if c then Ev a r else Ev b r := by
 by_cases h : c <;> simp [h]

theorem rd_lt (l : List Int) (i : Nat) (h : i < l.length) : rd l (i : Int) = l[i] := by simp [rd, h]

theorem w64_succ (i : Nat) (h : i < 9223372036854775807) : wrap64 ((i : Int) + 1) = ((i + 1 : Nat) : Int) := by rw [w64] <;> omega

/-- Downwards: from the end of a loop to its begin. -/
theorem down (n : Nat) (P : Nat → Prop) (h0 : P n) (h1 : ∀ i, i < n → P (i + 1) → P i) : ∀ i, i ≤ n → P i := by
  intro i hi
  obtain ⟨d, hd⟩ : ∃ d, d = n - i := ⟨_, rfl⟩
  induction d generalizing i with
  | zero => obtain rfl : i = n := by omega
            exact h0
  | succ d ih => exact h1 i (by omega) (ih (i + 1) (by omega) (by omega))

theorem dropc (l : List Int) (i : Nat) (h : i < l.length) : ∃ a s, l.drop i = a :: s ∧ l.drop (i + 1) = s ∧ rd l i = a ∧ l[i] = a :=
 ⟨l[i], l.drop (i + 1), List.drop_eq_getElem_cons h, rfl, rd_lt l i h, rfl⟩

theorem within_eq (a b c : Int) : impl_within.f a b c = some (decide (b ≤ a ∧ a ≤ c)) := by
 unfold impl_within.f
 by_cases h : a ≥ b
 ·rw [if_pos h];simp;omega
 ·rw [if_neg h];simp;omega

def allIn (lo hi : Int) (l : List Int) : Bool := l.all fun a => decide (lo ≤ a ∧ a ≤ hi)

theorem allWithin_ev (l : List Int) (lo hi : Int) (hl : l.length ≤ 9223372036854775807) : Ev (fun k => impl_allWithin.f k l lo hi) (allIn lo hi l) := by
 have H := down l.length (fun i => Ev (fun k => impl_allWithin.l0 k lo hi l l.length i) (allIn lo hi (l.drop i))) ?_ ?_ 0 (by omega)
 ·simpa [impl_allWithin.f] using H
 ·show Ev _ _
  rw [Ev.iff_succ]
  simp [impl_allWithin.l0, Ev.now_iff, allIn]
 ·intro i hi' ih
  show Ev _ _
  rw [Ev.iff_succ]
  have h1 : (i : Int) < l.length := by omega
  have h2 : (0 : Int) ≤ i := by omega
  obtain ⟨a, s, e1, e2, e3, e4⟩ := dropc l i hi'
  rw [e1];rw [e2] at ih
  simp only [impl_allWithin.l0, Ev.ite_iff, h1, h2, ↓reduceIte, w64_succ i (by omega), within_eq, Option.bind_some, Ev.now_iff, e3, decide_eq_true_eq]
  by_cases c : lo ≤ a ∧ a ≤ hi
  ·simpa [c, allIn] using ih
  ·rw [if_neg c];simp only [allIn, List.all_cons, c, decide_false, Bool.false_and]

theorem i64_wrap_id (n : Int) (h0 : 0 ≤ n) (h1 : n < 2 ^ 62) : IntKind.i64.wrap n = n := by rw [IntKind.wrap_i64]; omega

theorem gor (a b : Nat) (ha : a < 2 ^ 62) (hb : b < 2 ^ 62) : Go.bits .or .i64 (a : Int) (b : Int) = ((a ||| b : Nat) : Int) :=
 (bits_nat .i64 62 (by decide) i64_wrap_id a b ha hb).2

theorem gand (a b : Nat) (ha : a < 2 ^ 62) (hb : b < 2 ^ 62) : Go.bits .and .i64 (a : Int) (b : Int) = ((a &&& b : Nat) : Int) :=
 (bits_nat .i64 62 (by decide) i64_wrap_id a b ha hb).1

/-- The set of those below n that p tells. -/
def mk : Nat → (Nat → Bool) → Nat
 | 0, _ => 0
 | n + 1, p => mk n p ||| (if p n then 2 ^ n else 0)

theorem mk_bit (n : Nat) (p : Nat → Bool) (i : Nat) : (mk n p).testBit i = (decide (i < n) && p i) := by
 induction n with
 | zero => simp [mk]
 | succ n ih =>
  simp only [mk, Nat.testBit_or, ih]
  by_cases h : i = n
  ·subst h
   cases hp : p i <;> simp
  ·have e : (if p n = true then 2 ^ n else 0).testBit i = false := by
    split
    ·rw [Nat.testBit_two_pow];simp;omega
    ·simp
   rw [e, Bool.or_false]
   by_cases h2 : i < n
   ·simp [h2, show i < n + 1 by omega]
   ·simp [h2, show ¬ i < n + 1 by omega]

theorem bit_lt {n m i : Nat} (h : m < 2 ^ n) (hi : n ≤ i) : m.testBit i = false := Nat.testBit_lt_two_pow (Nat.lt_of_lt_of_le h (Nat.pow_le_pow_right (by decide) hi))

theorem lt_of_bits {n m : Nat} (h : ∀ i, n ≤ i → m.testBit i = false) : m < 2 ^ n := Nat.lt_pow_two_of_testBit m h

theorem mk_lt (n : Nat) (p : Nat → Bool) : mk n p < 2 ^ n := lt_of_bits fun i hi => by rw [mk_bit]; simp; omega

/-- Two sets of nodes below n are one if they have the same nodes. -/
theorem mask_ext {n a b : Nat} (ha : a < 2 ^ n) (hb : b < 2 ^ n) (h : ∀ i, i < n → a.testBit i = b.testBit i) : a = b := by
 apply Nat.eq_of_testBit_eq
 intro i
 by_cases hi : i < n
 ·exact h i hi
 ·rw [bit_lt ha (by omega), bit_lt hb (by omega)]

/-- Are two numbers an edge, in either order? -/
def near (es : List S80) (a b : Int) : Bool := es.any fun e => decide (e.f0 = a ∧ e.f1 = b ∨ e.f0 = b ∧ e.f1 = a)

/-- The neighbors of a node, as a set. -/
def nb (es : List S80) (n x : Nat) : Nat := mk n (fun y => near es x y)

theorem nb_lt (es : List S80) (n x : Nat) : nb es n x < 2 ^ n := mk_lt _ _

theorem nb_bit (es : List S80) (n x y : Nat) : (nb es n x).testBit y = (decide (y < n) && near es x y) := mk_bit _ _ _

theorem dropE (es : List S80) (i : Nat) (h : i < es.length) : ∃ a s, es.drop i = a :: s ∧ es.drop (i + 1) = s ∧ rd_T80 es i = a ∧ es[i] = a :=
 ⟨es[i], es.drop (i + 1), List.drop_eq_getElem_cons h, rfl, by simp [rd_T80, h], rfl⟩

theorem l2Near_ev (n : Int) (es : List S80) (a b : Int) (hl : es.length ≤ 9223372036854775807) : Ev (fun k => spec_l2Near.f k n es a b) (near es a b) := by
 have H := down es.length (fun i => Ev (fun k => spec_l2Near.l0 k a b i n es) (near (es.drop i) a b)) ?_ ?_ 0 (by omega)
 ·simpa [spec_l2Near.f] using H
 ·show Ev _ _
  rw [Ev.iff_succ]
  simp [spec_l2Near.l0, Ev.now_iff, near]
 ·intro i hi ih
  show Ev _ _
  rw [Ev.iff_succ]
  have h1 : (i : Int) < es.length := by omega
  have h2 : (0 : Int) ≤ i := by omega
  obtain ⟨e, s, e1, e2, e3, e4⟩ := dropE es i hi
  rw [e1];rw [e2] at ih
  simp only [spec_l2Near.l0, Ev.ite_iff, h1, h2, ↓reduceIte, w64_succ i (by omega), Ev.now_iff, Ev.none_iff, e3]
  by_cases h : e.f0 = a ∧ e.f1 = b ∨ e.f0 = b ∧ e.f1 = a
  ·have hn : near (e :: s) a b = true := by simp only [near, List.any_cons, h, decide_true, Bool.true_or]
   rw [hn]
   split
   ·split
    ·rfl
    ·split
     ·split
      ·rfl
      ·omega
     ·omega
   ·split
    ·split
     ·rfl
     ·omega
    ·omega
  ·have hn : near (e :: s) a b = near s a b := by simp only [near, List.any_cons, h, decide_false, Bool.false_or]
   rw [hn]
   split
   ·split
    ·omega
    ·split
     ·split
      ·omega
      ·exact ih
     ·exact ih
   ·split
    ·split
     ·omega
     ·exact ih
    ·exact ih

/-- The rows of a net: of each node the set of those that q tells. -/
def netW (n : Nat) (q : Nat → Nat → Bool) : List Int := (List.range n).map (fun x => Int.ofNat (mk n (q x)))

theorem netW_rd {n : Nat} {q : Nat → Nat → Bool} {i : Nat} (h : i < n) : rd (netW n q) i = (mk n (q i) : Nat) := by simp [rd, netW, h]

theorem netW_set {n : Nat} {q : Nat → Nat → Bool} {i : Nat} {p : Nat → Bool} (_ : i < n) : (netW n q).set i (Int.ofNat (mk n p)) = netW n (fun x => if x = i then p else q x) := by
 apply List.ext_getElem
 ·simp [netW]
 ·intro j h1 h2
  simp only [List.getElem_set, netW, List.getElem_map, List.getElem_range]
  by_cases e : i = j
  ·subst e;simp
  ·simp [e, show ¬ j = i from fun h => e h.symm]

theorem shl_one {j : Nat} (h : j < 62) : shl .i64 1 (j : Int) = ((2 ^ j : Nat) : Int) := by
 unfold shl
 have hb : IntKind.bits .i64 = 64 := rfl
 have h1 : (2 : Nat) ^ j < 2 ^ 62 := Nat.pow_lt_pow_right (by decide) h
 rw [Int.toNat_natCast, hb, Nat.min_eq_left (by omega), Int.one_mul, i64_wrap_id]
 ·simp
 ·exact Int.pow_nonneg (by decide)
 ·exact_mod_cast h1

theorem mk_or_pow {n : Nat} {p : Nat → Bool} {j : Nat} (h : j < n) : mk n p ||| 2 ^ j = mk n (fun y => p y || y == j) := by
 refine mask_ext (n := n) (Nat.or_lt_two_pow (mk_lt _ _) (Nat.pow_lt_pow_right (by decide) h)) (mk_lt _ _) (fun i hi => ?_)
 rw [Nat.testBit_or, mk_bit, mk_bit, Nat.testBit_two_pow]
 by_cases e : j = i
 ·subst e;simp [hi]
 ·simp [hi, e, show ¬ i = j from fun h => e h.symm]

theorem mk_lt62 {n : Nat} (p : Nat → Bool) (hn : n ≤ 8) : mk n p < 2 ^ 62 := Nat.lt_of_lt_of_le (mk_lt n p) (Nat.pow_le_pow_right (by decide) (by omega))

theorem netStep_W {n : Nat} {q : Nat → Nat → Bool} {e : S80} (hn : n ≤ 8) (he : edgeOk n e = true) :
  netStep (netW n q) e = netW n (fun x y => q x y || decide (e.f0 = (x : Int) ∧ e.f1 = (y : Int) ∨ e.f0 = (y : Int) ∧ e.f1 = (x : Int))) := by
 simp only [edgeOk, decide_eq_true_eq] at he
 obtain ⟨a, b⟩ := e
 simp only at he
 obtain ⟨i, rfl⟩ : ∃ i : Nat, a = i := ⟨a.toNat, by omega⟩
 obtain ⟨j, rfl⟩ : ∃ j : Nat, b = j := ⟨b.toNat, by omega⟩
 have hi : i < n := by omega
 have hj : j < n := by omega
 have hp : ∀ {k : Nat}, k < n → 2 ^ k < 2 ^ 62 := fun h => Nat.pow_lt_pow_right (by decide) (by omega)
 simp only [netStep, Int.toNat_natCast]
 rw [netW_rd hi, shl_one (by omega), gor _ _ (mk_lt62 _ hn) (hp hj), mk_or_pow hj]
 rw [show ((mk n fun y => q i y || y == j : Nat) : Int) = Int.ofNat (mk n fun y => q i y || y == j) from rfl, netW_set hi]
 rw [netW_rd hj, shl_one (by omega), gor _ _ (mk_lt62 _ hn) (hp hi), mk_or_pow hi]
 rw [show ∀ z : Nat, (z : Int) = Int.ofNat z from fun _ => rfl, netW_set hj]
 congr 1
 funext x y
 have hij : i ≠ j := by omega
 rw [Bool.eq_iff_iff]
 by_cases e1 : x = j
 ·subst e1
  rw [if_pos rfl, if_neg (Ne.symm hij)]
  simp only [Bool.or_eq_true, beq_iff_eq, decide_eq_true_eq, and_true, true_and]
  constructor
  ·rintro (h | h)
   ·exact .inl h
   ·right;omega
  ·rintro (h | h)
   ·exact .inl h
   ·right;omega
 ·rw [if_neg e1]
  by_cases e3 : x = i
  ·subst e3
   rw [if_pos rfl]
   simp only [Bool.or_eq_true, beq_iff_eq, decide_eq_true_eq, and_true, true_and]
   constructor
   ·rintro (h | h)
    ·exact .inl h
    ·right;omega
   ·rintro (h | h)
    ·exact .inl h
    ·right;omega
  ·rw [if_neg e3]
   simp only [Bool.or_eq_true, decide_eq_true_eq]
   constructor
   ·exact .inl
   ·rintro (h | h)
    ·exact h
    ·omega

theorem netW_fold {n : Nat} (hn : n ≤ 8) : ∀ (es : List S80) (q : Nat → Nat → Bool), (∀ e ∈ es, edgeOk n e = true) → es.foldl netStep (netW n q) = netW n (fun x y => q x y || near es x y)
 | [], q, _ => by simp [near]
 | e :: es, q, h => by
  rw [List.foldl_cons, netStep_W hn (h e (by simp)), netW_fold hn es _ (fun x hx => h x (by simp [hx]))]
  congr 1
  funext x y
  simp only [near, List.any_cons, Bool.or_assoc]

/-- The rows of the net of a graph. -/
def nets (es : List S80) (n : Nat) : List Int := (List.range n).map (fun x => Int.ofNat (nb es n x))

theorem nets_len (es : List S80) (n : Nat) : (nets es n).length = n := by simp [nets]

theorem nets_rd {es : List S80} {n i : Nat} (h : i < n) : rd (nets es n) i = (nb es n i : Nat) := by simp [rd, nets, h]

def okG (n : Int) (es : List S80) : Bool := decide (0 ≤ n ∧ n ≤ 8) && goodL n none es

theorem netOf_eq {n : Nat} {es : List S80} (h : okG n es = true) : impl_netOf.f n es = some (nets es n) := by
 have h2 := h
 simp only [okG, Bool.and_eq_true, decide_eq_true_eq] at h2
 have hn : n ≤ 8 := by omega
 have hz : List.replicate n (0 : Int) = netW n (fun _ _ => false) := by
  apply List.ext_getElem
  ·simp [netW]
  ·intro i h1 h3
   have hm : mk n (fun _ => false) = 0 := mask_ext (n := n) (mk_lt _ _) (Nat.two_pow_pos n) (fun i _ => by rw [mk_bit];simp)
   simp [netW, hm]
 show (if okG n es = true then some (es.foldl netStep (List.replicate (n : Int).toNat 0)) else none) = _
 rw [if_pos h, Int.toNat_natCast, hz, netW_fold hn es _ (goodL_all h2.2)]
 simp [netW, nets, nb]

theorem lt62 {n m : Nat} (hn : n ≤ 8) (h : m < 2 ^ n) : m < 2 ^ 62 := Nat.lt_of_lt_of_le h (Nat.pow_le_pow_right (by decide) (by omega))

theorem shr_nat (a x : Nat) (h : x < 62) : shr .i64 (a : Int) (x : Int) = ((a >>> x : Nat) : Int) := by
 unfold shr
 have hb : IntKind.bits .i64 = 64 := rfl
 rw [Int.toNat_natCast, hb, Nat.min_eq_left (by omega), Nat.shiftRight_eq_div_pow]
 simp

theorem shr_bit (a x : Nat) (ha : a < 2 ^ 62) (h : x < 62) : Go.bits .and .i64 (shr .i64 (a : Int) (x : Int)) 1 = if a.testBit x then 1 else 0 := by
 have h1 : a >>> x < 2 ^ 62 := Nat.lt_of_le_of_lt (Nat.shiftRight_le a x) ha
 rw [shr_nat a x h, show (1 : Int) = ((1 : Nat) : Int) from rfl, gand _ _ h1 (by decide)]
 simp only [Nat.testBit, bne_iff_ne, ne_eq]
 rw [Nat.and_comm 1, Nat.and_one_is_mod]
 have := Nat.mod_two_eq_zero_or_one (a >>> x)
 rcases this with h | h <;> simp [h]

theorem set_fill {α : Type} (l : List α) (z : α) (i : Nat) (h : i < l.length) : (l.take i ++ List.replicate (l.length - i) z).set i l[i] = l.take (i + 1) ++ List.replicate (l.length - (i + 1)) z := by
 rw [List.take_succ_eq_append_getElem h, show l.length - i = (l.length - (i + 1)) + 1 by omega, List.replicate_succ]
 have h1 : (l.take i).length = i := by rw [List.length_take];omega
 rw [List.set_append_right _ _ (by omega), h1, Nat.sub_self, List.set_cons_zero, List.append_assoc]
 rfl

theorem toIntS_ev (l : List Int) (hl : l.length ≤ 35184372088832) : Ev (fun k => laws_toIntS.f k l) l := by
 unfold laws_toIntS.f
 rw [Ev.ite_iff, if_pos (by omega), Ev.ite_iff, if_pos (by omega), Int.toNat_natCast]
 have H := down l.length (fun i => Ev (fun k => laws_toIntS.l0 k l (l.take i ++ List.replicate (l.length - i) 0) i) l) ?_ ?_ 0 (by omega)
 ·simpa using H
 ·show Ev _ _
  rw [Ev.iff_succ]
  simp [laws_toIntS.l0, Ev.now_iff]
 ·intro i hi ih
  show Ev _ _
  rw [Ev.iff_succ]
  have h1 : (i : Int) < l.length := by omega
  have h2 : (0 : Int) ≤ i := by omega
  have h3 : (i : Int) < ((l.take i ++ List.replicate (l.length - i) (0 : Int)).length : Int) := by
   rw [List.length_append, List.length_take, List.length_replicate];omega
  simp only [laws_toIntS.l0, Ev.ite_iff, h1, h2, h3, ↓reduceIte, w64_succ i (by omega), rd_lt l i hi, Int.toNat_natCast]
  rw [set_fill l 0 i hi]
  exact ih

theorem toIntA2_eq (a b : Int) : laws_toIntA2.f a b = some (a, b) := rfl

theorem toIntA2S_ev (l : List S80) (hl : l.length ≤ 17592186044416) : Ev (fun k => laws_toIntA2S.f k l) l := by
 unfold laws_toIntA2S.f
 rw [Ev.ite_iff, if_pos (by omega), Ev.ite_iff, if_pos (by omega), Int.toNat_natCast]
 have H := down l.length (fun i => Ev (fun k => laws_toIntA2S.l0 k l (l.take i ++ List.replicate (l.length - i) z80) i) l) ?_ ?_ 0 (by omega)
 ·simpa using H
 ·show Ev _ _
  rw [Ev.iff_succ]
  simp [laws_toIntA2S.l0, Ev.now_iff]
 ·intro i hi ih
  show Ev _ _
  rw [Ev.iff_succ]
  have h1 : (i : Int) < l.length := by omega
  have h2 : (0 : Int) ≤ i := by omega
  have h3 : (i : Int) < ((l.take i ++ List.replicate (l.length - i) z80).length : Int) := by
   rw [List.length_append, List.length_take, List.length_replicate];omega
  have h4 : rd_T80 l i = l[i] := by simp [rd_T80, hi]
  simp only [laws_toIntA2S.l0, Ev.ite_iff, h1, h2, ↓reduceIte, toIntA2_eq, Option.bind_some, h3, w64_succ i (by omega), h4, Int.toNat_natCast]
  rw [set_fill l _ i hi]
  exact ih

theorem toGraph_ev (n : Int) (es : List S80) (hl : es.length ≤ 17592186044416) : Ev (fun k => laws_toGraph.f k n es) (n, es) := by
 unfold laws_toGraph.f
 rw [Ev.bind_iff (toIntA2S_ev es hl), Ev.now_iff]

theorem eqIntS_refl (l : List Int) (hl : l.length ≤ 9223372036854775807) : Ev (fun k => laws_eqIntS.f k l l) true := by
 unfold laws_eqIntS.f
 rw [Ev.ite_iff, if_pos rfl]
 have H := down l.length (fun i => Ev (fun k => laws_eqIntS.l0 k l l i) true) ?_ ?_ 0 (by omega)
 ·simpa using H
 ·show Ev _ _
  rw [Ev.iff_succ]
  simp [laws_eqIntS.l0, Ev.now_iff]
 ·intro i hi ih
  show Ev _ _
  rw [Ev.iff_succ]
  have h1 : (i : Int) < l.length := by omega
  have h2 : (0 : Int) ≤ i := by omega
  simp only [laws_eqIntS.l0, Ev.ite_iff, h1, h2, ↓reduceIte, w64_succ i (by omega)]
  exact ih

theorem eqIntA2_refl (a b : Int) : laws_eqIntA2.f a b a b = some true := by simp [laws_eqIntA2.f]

theorem eqGraph_refl (n : Int) (es : List S80) (hl : es.length ≤ 9223372036854775807) : Ev (fun k => laws_eqGraph.f k n es n es) true := by
 have H0 : Ev (fun k => laws_eqIntA2S.f k es es) true := by
  unfold laws_eqIntA2S.f
  rw [Ev.ite_iff, if_pos rfl]
  have H := down es.length (fun i => Ev (fun k => laws_eqIntA2S.l0 k es es i) true) ?_ ?_ 0 (by omega)
  ·simpa using H
  ·show Ev _ _
   rw [Ev.iff_succ]
   simp [laws_eqIntA2S.l0, Ev.now_iff]
  ·intro i hi ih
   show Ev _ _
   rw [Ev.iff_succ]
   have h1 : (i : Int) < es.length := by omega
   have h2 : (0 : Int) ≤ i := by omega
   simp only [laws_eqIntA2S.l0, Ev.ite_iff, h1, h2, ↓reduceIte, w64_succ i (by omega), eqIntA2_refl, Option.bind_some]
   exact ih
 unfold laws_eqGraph.f
 rw [Ev.ite_iff, if_pos rfl, Ev.bind_iff H0, Ev.ite_iff, if_pos rfl, Ev.now_iff]

theorem szGraph_eq (n : Int) (es : List S80) (hl : es.length ≤ 9223372036854775807) : laws_szGraph.f n es 1048576 = some (if es.length ≤ 1048576 then 1048576 - (es.length : Int) else -1) := by
 unfold laws_szGraph.f laws_szIntA2S.f
 rw [w64 (by omega) (by omega)]
 by_cases h : es.length ≤ 1048576
 ·rw [if_neg (by omega), if_pos h, Option.bind_some, if_neg (by omega)]
 ·rw [if_pos (by omega), if_neg h, Option.bind_some, if_pos (by omega)]

theorem l2Good_eq (n : Int) (es : List S80) : spec_l2Good.f n es = some (okG n es) := rfl

theorem IsGraph_eq (n : Int) (es : List S80) : impl_IsGraph.f n es = some (okG n es) := rfl

theorem okG_use {n : Int} {es : List S80} (h : okG n es = true) : ∃ N : Nat, n = N ∧ N ≤ 8 := by
 simp only [okG, Bool.and_eq_true, decide_eq_true_eq] at h
 exact ⟨n.toNat, by omega, by omega⟩

/-- A square matrix. -/
def Sq (n : Nat) (M : List (List Int)) : Prop := M.length = n ∧ ∀ i : Nat, i < n → (rd_L2 M (i : Int)).length = n

theorem rdL2_set {M : List (List Int)} {i j : Nat} {r : List Int} (hi : i < M.length) : rd_L2 (M.set i r) (j : Int) = if i = j then r else rd_L2 M (j : Int) := by
 simp only [rdL2_getD, Int.toNat_natCast, List.getD_eq_getElem?_getD, List.getElem?_set]
 by_cases h : i = j
 ·subst h;simp [hi]
 ·simp [h]

theorem sq_set {n : Nat} {M : List (List Int)} (h : Sq n M) {i : Nat} {r : List Int} (hi : i < n) (hr : r.length = n) : Sq n (M.set i r) := by
 refine ⟨by rw [List.length_set];exact h.1, fun j hj => ?_⟩
 rw [rdL2_set (by rw [h.1];exact hi)]
 split
 ·exact hr
 ·exact h.2 j hj

theorem sq_put {n : Nat} {M : List (List Int)} (h : Sq n M) {i : Nat} (hi : i < n) (y v : Int) : Sq n (putM M (i : Int) y v) := by
 unfold putM
 rw [Int.toNat_natCast]
 exact sq_set h hi (by rw [List.length_set];exact h.2 i hi)

theorem sq_swap {n : Nat} {M : List (List Int)} (h : Sq n M) {i j : Nat} (hi : i < n) (hj : j < n) : Sq n (swapM M (i : Int) (j : Int)) := by
 unfold swapM
 rw [Int.toNat_natCast, Int.toNat_natCast]
 exact sq_set (sq_set h hi (h.2 j hj)) hj (h.2 i hi)

theorem swapM_comm (M : List (List Int)) (i j : Nat) : swapM M (i : Int) (j : Int) = swapM M (j : Int) (i : Int) := by
 unfold swapM
 rw [Int.toNat_natCast, Int.toNat_natCast]
 by_cases h : i = j
 ·subst h;rfl
 ·exact List.set_comm _ _ h

/-- One row less a multiple of another, number by number; all rows below; all columns. -/
def el2 (r k t : Int) (M : List (List Int)) : Nat → List (List Int)
 | 0 => M
 | i + 1 => putM (el2 r k t M i) k (i : Int) (fieldOf (rd (rd_L2 (el2 r k t M i) k) (i : Int)) t (rd (rd_L2 (el2 r k t M i) r) (i : Int)))

theorem el2_sq {n : Nat} {M : List (List Int)} (h : Sq n M) (r t : Int) {k : Nat} (hk : k < n) : ∀ i, Sq n (el2 r (k : Int) t M i)
 | 0 => h
 | i + 1 => sq_put (el2_sq h r t hk i) hk _ _

def tmE (M : List (List Int)) (k c u : Int) : Int := Int.tmod (wrap64 (rd (rd_L2 M k) c * u)) 10007

def el1 (n r : Nat) (c u : Int) (M : List (List Int)) : Nat → List (List Int)
 | 0 => M
 | i + 1 => el2 (r : Int) ((r + 1 + i : Nat) : Int) (tmE (el1 n r c u M i) ((r + 1 + i : Nat) : Int) c u) (el1 n r c u M i) n

theorem el1_sq {n r : Nat} {M : List (List Int)} (h : Sq n M) (c u : Int) : ∀ i, r + 1 + i ≤ n → Sq n (el1 n r c u M i)
 | 0, _ => h
 | i + 1, hi => el2_sq (el1_sq h c u i (by omega)) _ _ (by omega) n

/-- A power: the program's loop. -/
def rz : Nat → Int → Nat → Int → Int
 | 0, _, _, acc => acc
 | f + 1, x, e, acc => if e = 0 then acc else rz f (Int.tmod (wrap64 (x * x)) 10007) (e / 2) (if e % 2 = 1 then Int.tmod (wrap64 (acc * x)) 10007 else acc)

theorem half_w (e : Nat) (h : e < 9223372036854775808) : wrap64 (Int.tdiv (e : Int) 2) = ((e / 2 : Nat) : Int) := by
 rw [show Int.tdiv (e : Int) 2 = ((e / 2 : Nat) : Int) from rfl, w64] <;> omega

theorem odd_i (e : Nat) : (Int.tmod (e : Int) 2 = 1) = (e % 2 = 1) := by
 rw [show Int.tmod (e : Int) 2 = ((e % 2 : Nat) : Int) from rfl]
 exact propext ⟨fun h => by omega, fun h => by omega⟩

end Go.Proofs.Ytaddgielnfhhpaa.QNullityOf
