import Derived.Test.YtaddgielnfhhpaaQBurningNumber0
import Derived.Test.YtaddgielnfhhpaaQBurningNumber1
import Derived.Test.YtaddgielnfhhpaaQBurningNumber10
import Derived.Test.YtaddgielnfhhpaaQBurningNumber2
import Derived.Test.YtaddgielnfhhpaaQBurningNumber4
import Derived.Test.YtaddgielnfhhpaaQBurningNumber5
import Derived.Test.YtaddgielnfhhpaaQBurningNumber9
import Derived.Test.YtaddgielnfhhpaaQBurningNumberA0
namespace Go.Proofs.Ytaddgielnfhhpaa.QBurningNumber
open Go.RowKit Go.Proofs.YtaddgielnfhhpaaW.PrintWords Go.Proofs.YtaddgielnfhhpaaW.PrintLast Go.Proofs.YtaddgielnfhhpaaW.PrintMore
attribute [local go_sem] max2_int min2_int max_two min_two max_three min_three max_four min_four   -- for this text's walks alone
set_option linter.unusedVariables false
set_option linter.unusedSimpArgs false
theorem aroM_lt {es : List S80} {n m : Nat} (h : m < 2 ^ n) : aroM es n m < 2 ^ n := aFold_lt h n

theorem aFold_bit (es : List S80) (n m acc y : Nat) : ∀ i, ((List.range i).foldl (aStep es n m) acc).testBit y = true ↔ acc.testBit y = true ∨ ∃ x, x < i ∧ m.testBit x = true ∧ (nb es n x).testBit y = true
 | 0 => by simp
 | i + 1 => by
  rw [fold_range_succ]
  have ih := aFold_bit es n m acc y i
  generalize (List.range i).foldl (aStep es n m) acc = b at ih ⊢
  unfold aStep
  have key : (∃ x, x < i + 1 ∧ m.testBit x = true ∧ (nb es n x).testBit y = true) ↔ (∃ x, x < i ∧ m.testBit x = true ∧ (nb es n x).testBit y = true) ∨ (m.testBit i = true ∧ (nb es n i).testBit y = true) := by
   constructor
   ·rintro ⟨x, h1, h2⟩
    by_cases e : x = i
    ·subst e;exact .inr h2
    ·exact .inl ⟨x, by omega, h2⟩
   ·rintro (⟨x, h1, h2⟩ | h2)
    ·exact ⟨x, by omega, h2⟩
    ·exact ⟨i, by omega, h2⟩
  rw [key]
  by_cases c : m.testBit i = true
  ·rw [if_pos c, Nat.testBit_or, Bool.or_eq_true, ih];simp only [c, true_and, or_assoc]
  ·rw [if_neg c, ih];simp only [c, false_and, or_false];simp

theorem aroM_bit (es : List S80) (n m y : Nat) : (aroM es n m).testBit y = true ↔ m.testBit y = true ∨ ∃ x, x < n ∧ m.testBit x = true ∧ (nb es n x).testBit y = true := aFold_bit es n m m y n

theorem around_ev (es : List S80) (n m : Nat) (hn : n ≤ 8) (hm : m < 2 ^ n) : Ev (fun k => impl_net_around.f k (nets es n) m) ((aroM es n m : Nat) : Int) := by
 have H := down n (fun i => Ev (fun k => impl_net_around.l0 k m (((List.range i).foldl (aStep es n m) m : Nat) : Int) (nets es n) n i) ((aroM es n m : Nat) : Int)) ?_ ?_ 0 (by omega)
 ·simpa [impl_net_around.f, nets_len] using H
 ·show Ev _ _
  rw [Ev.iff_succ]
  simp [impl_net_around.l0, Ev.now_iff, aroM]
 ·intro i hi ih
  show Ev _ _
  rw [Ev.iff_succ]
  have h1 : (i : Int) < (n : Int) := by omega
  have h2 : (0 : Int) ≤ i := by omega
  have h3 : (i : Int) < ((nets es n).length : Int) := by rw [nets_len];omega
  have hacc := aFold_lt (es := es) (m := m) hm i
  have hb := nb_lt es n i
  have e2 : ∀ acc : Nat, acc < 2 ^ n → Go.bits .or .i64 (acc : Int) ((nb es n i : Nat) : Int) = ((acc ||| nb es n i : Nat) : Int) := fun acc ha => gor _ _ (lt62 hn ha) (lt62 hn hb)
  rw [fold_range_succ] at ih
  generalize (List.range i).foldl (aStep es n m) m = acc at hacc ih ⊢
  unfold aStep at ih
  have e3 := shr_bit m i (lt62 hn hm) (by omega)
  simp only [impl_net_around.l0, Ev.ite_iff, h1, h2, h3, ↓reduceIte, w64_succ i (by omega), nets_rd hi, e3, e2 acc hacc]
  cases c : m.testBit i
  ·rw [c] at ih;simpa using ih
  ·rw [c] at ih;simpa using ih

theorem set_fill {α : Type} (l : List α) (z : α) (i : Nat) (h : i < l.length) : (l.take i ++ List.replicate (l.length - i) z).set i l[i] = l.take (i + 1) ++ List.replicate (l.length - (i + 1)) z := by
 rw [List.take_succ_eq_append_getElem h, show l.length - i = (l.length - (i + 1)) + 1 by omega, List.replicate_succ]
 have h1 : (l.take i).length = i := by rw [List.length_take];omega
 rw [List.set_append_right _ _ (by omega), h1, Nat.sub_self, List.set_cons_zero, List.append_assoc]
 rfl

theorem toIntA2_eq (a b : Int) : laws_toIntA2.f a b = some (a, b) := rfl

theorem toIntA2S_ev (l : List S80) (hl : l.length ≤ 17592186044416) : Ev (fun k => laws_toIntA2S.f k l) l := by
 unfold laws_toIntA2S.f
 rw [Ev.ite_iff, if_pos (by omega), Ev.ite_iff, if_pos (by omega), Int.toNat_natCast]
 have H := down l.length (fun i => Ev (fun k => laws_toIntA2S.l0 k l (l.take i ++ List.replicate (l.length - i) z80) i) l) ?_ ?_ 0 (by omega)
 ·simpa using H
 ·show Ev _ _
  rw [Ev.iff_succ]
  simp [laws_toIntA2S.l0, Ev.now_iff]
 ·intro i hi ih
  show Ev _ _
  rw [Ev.iff_succ]
  have h1 : (i : Int) < l.length := by omega
  have h2 : (0 : Int) ≤ i := by omega
  have h3 : (i : Int) < ((l.take i ++ List.replicate (l.length - i) z80).length : Int) := by
   rw [List.length_append, List.length_take, List.length_replicate];omega
  have h4 : rd_T80 l i = l[i] := by simp [rd_T80, hi]
  simp only [laws_toIntA2S.l0, Ev.ite_iff, h1, h2, ↓reduceIte, toIntA2_eq, Option.bind_some, h3, w64_succ i (by omega), h4, Int.toNat_natCast]
  rw [set_fill l _ i hi]
  exact ih

theorem toGraph_ev (n : Int) (es : List S80) (hl : es.length ≤ 17592186044416) : Ev (fun k => laws_toGraph.f k n es) (n, es) := by
 unfold laws_toGraph.f
 rw [Ev.bind_iff (toIntA2S_ev es hl), Ev.now_iff]

theorem eqIntA2_refl (a b : Int) : laws_eqIntA2.f a b a b = some true := by simp [laws_eqIntA2.f]

theorem eqGraph_refl (n : Int) (es : List S80) (hl : es.length ≤ 9223372036854775807) : Ev (fun k => laws_eqGraph.f k n es n es) true := by
 have H0 : Ev (fun k => laws_eqIntA2S.f k es es) true := by
  unfold laws_eqIntA2S.f
  rw [Ev.ite_iff, if_pos rfl]
  have H := down es.length (fun i => Ev (fun k => laws_eqIntA2S.l0 k es es i) true) ?_ ?_ 0 (by omega)
  ·simpa using H
  ·show Ev _ _
   rw [Ev.iff_succ]
   simp [laws_eqIntA2S.l0, Ev.now_iff]
  ·intro i hi ih
   show Ev _ _
   rw [Ev.iff_succ]
   have h1 : (i : Int) < es.length := by omega
   have h2 : (0 : Int) ≤ i := by omega
   simp only [laws_eqIntA2S.l0, Ev.ite_iff, h1, h2, ↓reduceIte, w64_succ i (by omega), eqIntA2_refl, Option.bind_some]
   exact ih
 unfold laws_eqGraph.f
 rw [Ev.ite_iff, if_pos rfl, Ev.bind_iff H0, Ev.ite_iff, if_pos rfl, Ev.now_iff]

theorem szGraph_eq (n : Int) (es : List S80) (hl : es.length ≤ 9223372036854775807) : laws_szGraph.f n es 1048576 = some (if es.length ≤ 1048576 then 1048576 - (es.length : Int) else -1) := by
 unfold laws_szGraph.f laws_szIntA2S.f
 rw [w64 (by omega) (by omega)]
 by_cases h : es.length ≤ 1048576
 ·rw [if_neg (by omega), if_pos h, Option.bind_some, if_neg (by omega)]
 ·rw [if_pos (by omega), if_neg h, Option.bind_some, if_pos (by omega)]

theorem l2Good_eq (n : Int) (es : List S80) : spec_l2Good.f n es = some (okG n es) := rfl

theorem IsGraph_eq (n : Int) (es : List S80) : impl_IsGraph.f n es = some (okG n es) := rfl

theorem all_eq {es : List S80} {n : Nat} (h : n ≤ 8) : impl_net_all.f (nets es n) = some ((2 ^ n - 1 : Nat) : Int) := by
 unfold impl_net_all.f
 rw [nets_len, mask_all n h]

/-- A row of numbers by places. -/
def rowF (n : Nat) (f : Nat → Int) : List Int := (List.range n).map f

theorem rowF_len (n : Nat) (f : Nat → Int) : (rowF n f).length = n := by simp [rowF]

theorem rowF_rd {n : Nat} {f : Nat → Int} {i : Nat} (h : i < n) : rd (rowF n f) i = f i := by simp [rd, rowF, h]

theorem rowF_set {n : Nat} {f : Nat → Int} {i : Nat} {v : Int} (_ : i < n) : (rowF n f).set i v = rowF n (fun x => if x = i then v else f x) := by
 apply List.ext_getElem
 ·simp [rowF]
 ·intro j h1 h2
  simp only [List.getElem_set, rowF, List.getElem_map, List.getElem_range]
  by_cases e : i = j
  ·subst e;simp
  ·simp [e, show ¬ j = i from fun h => e h.symm]

theorem rowF_ext {n : Nat} {f g : Nat → Int} (h : ∀ x, x < n → f x = g x) : rowF n f = rowF n g := by
 unfold rowF
 exact List.map_congr_left (fun x hx => h x (List.mem_range.1 hx))

theorem l1Most_eq (a b : Int) : spec_l1Most.f a b = some (if a > b then a else b) := by unfold spec_l1Most.f; split <;> rfl

theorem okG_use {n : Int} {es : List S80} (h : okG n es = true) : ∃ N : Nat, n = N ∧ N ≤ 8 := by
 simp only [okG, Bool.and_eq_true, decide_eq_true_eq] at h
 exact ⟨n.toNat, by omega, by omega⟩

/-- The ball of a node: what is reached by so many steps. -/
def ballM (es : List S80) (n x : Nat) : Nat → Nat
 | 0 => 2 ^ x
 | j + 1 => aroM es n (ballM es n x j)

theorem ballM_lt {es : List S80} {n x : Nat} (hx : x < n) : ∀ j, ballM es n x j < 2 ^ n
 | 0 => Nat.pow_lt_pow_right (by decide) hx
 | j + 1 => aroM_lt (ballM_lt hx j)

theorem ballM_mono {es : List S80} {n x j y : Nat} (h : (ballM es n x j).testBit y = true) : (ballM es n x (j + 1)).testBit y = true := (aroM_bit _ _ _ _).2 (.inl h)

theorem ballM_le {es : List S80} {n x y : Nat} {i : Nat} (h : (ballM es n x i).testBit y = true) : ∀ d, (ballM es n x (i + d)).testBit y = true
 | 0 => h
 | d + 1 => ballM_mono (ballM_le h d)

theorem ballM_self {es : List S80} {n x : Nat} (j : Nat) : (ballM es n x j).testBit x = true := by
 have := ballM_le (es := es) (n := n) (x := x) (i := 0) (y := x) (by simp [ballM]) j
 rwa [Nat.zero_add] at this

theorem ballM_stop {es : List S80} {n x i : Nat} (h : ballM es n x (i + 1) = ballM es n x i) : ∀ d, ballM es n x (i + d) = ballM es n x i
 | 0 => rfl
 | d + 1 => by
  have ih := ballM_stop h d
  show aroM es n (ballM es n x (i + d)) = _
  rw [ih];exact h

theorem ballM_len {es : List S80} {n x : Nat} (hx : x < n) : ∀ j, j + 1 ≤ (bl n (ballM es n x j)).length ∨ ∃ i, i < j ∧ ballM es n x (i + 1) = ballM es n x i
 | 0 => by
  left
  have : (x : Int) ∈ bl n (ballM es n x 0) := mem_bl_nat.2 ⟨hx, by simp [ballM]⟩
  have := List.length_pos_of_mem this
  omega
 | j + 1 => by
  rcases ballM_len (es := es) hx j with h | ⟨i, hi, h⟩
  ·by_cases c : ballM es n x (j + 1) = ballM es n x j
   ·exact .inr ⟨j, by omega, c⟩
   ·left
    have h4 : (bl n (ballM es n x j)).length ≤ (bl n (ballM es n x (j + 1))).length := by
     rw [bl_len, bl_len];exact (cnt_mono n (fun i _ hi => ballM_mono hi)).1
    by_cases e : (bl n (ballM es n x (j + 1))).length ≤ (bl n (ballM es n x j)).length
    ·exact absurd (sub_len (ballM_lt hx j) (ballM_lt hx (j + 1)) (fun i _ hi => ballM_mono hi) e) c
    ·omega
  ·exact .inr ⟨i, by omega, h⟩

/-- Behind as many steps as there are nodes nothing more is reached. -/
theorem ballM_end {es : List S80} {n x : Nat} (hx : x < n) (d : Nat) : ballM es n x (n + d) = ballM es n x n := by
 rcases ballM_len (es := es) hx n with h | ⟨i, hi, h⟩
 ·have := bl_len_le n (ballM es n x n);omega
 ·have h1 := ballM_stop h (n - i + d)
  have h2 := ballM_stop h (n - i)
  rw [show i + (n - i + d) = n + d by omega] at h1
  rw [show i + (n - i) = n by omega] at h2
  rw [h1, h2]

theorem ball_l0 {es : List S80} {n x : Nat} (hn : n ≤ 8) (hx : x < n) : ∀ (r i : Nat), r < 1000 → Ev (fun k => impl_net_ball.l0 k r (ballM es n x i) (nets es n)) ((ballM es n x (i + r) : Nat) : Int)
 | 0, i, _ => by
  rw [Ev.iff_succ]
  simp [impl_net_ball.l0, Ev.now_iff]
 | r + 1, i, hr => by
  rw [Ev.iff_succ]
  simp only [impl_net_ball.l0]
  rw [Ev.ite_iff, if_pos (by omega), Ev.bind_iff (around_ev es n _ hn (ballM_lt hx i)), Ev.ite_iff]
  by_cases c : aroM es n (ballM es n x i) = ballM es n x i
  ·rw [if_pos (by rw [c]), Ev.now_iff, ballM_stop c]
  ·rw [if_neg (by omega), w64 (by omega) (by omega), show ((r + 1 : Nat) : Int) - 1 = (r : Int) by omega]
   have := ball_l0 hn hx r (i + 1) (by omega) (es := es)
   rw [show i + (r + 1) = i + 1 + r by omega]
   exact this

theorem ball_ev (es : List S80) (n x r : Nat) (hn : n ≤ 8) (hx : x < n) (hr : r < 1000) : Ev (fun k => impl_net_ball.f k (nets es n) x r) ((ballM es n x r : Nat) : Int) := by
 unfold impl_net_ball.f
 rw [Ev.ite_iff, if_pos (by omega), shl_one (by omega)]
 have := ball_l0 (es := es) hn hx r 0 hr
 rw [Nat.zero_add] at this
 exact this

/-- The step by which a node is reached, of those up to some one. -/
def lvD (es : List S80) (n x y : Nat) : Nat → Nat
 | 0 => 0
 | d + 1 => if (ballM es n x d).testBit y then lvD es n x y d else d + 1

theorem lvD_le {es : List S80} {n x y : Nat} : ∀ d, lvD es n x y d ≤ d
 | 0 => Nat.le_refl _
 | d + 1 => by
  unfold lvD
  have := lvD_le (es := es) (n := n) (x := x) (y := y) d
  split <;> omega

theorem lvD_eq {es : List S80} {n x y : Nat} : ∀ d, lvD es n x y d = d ↔ (d = 0 ∨ (ballM es n x (d - 1)).testBit y = false)
 | 0 => by simp [lvD]
 | d + 1 => by
  unfold lvD
  have := lvD_le (es := es) (n := n) (x := x) (y := y) d
  cases c : (ballM es n x d).testBit y
  ·simp [c]
  ·simp only [↓reduceIte, Nat.add_sub_cancel, c];simp;omega

/-- A node of the ball lies at most so far. -/
theorem lvD_in {es : List S80} {n x y r : Nat} : ∀ d, (ballM es n x d).testBit y = true → (lvD es n x y d ≤ r ↔ r ≥ d ∨ (ballM es n x r).testBit y = true)
 | 0, _ => by simp [lvD]
 | d + 1, h => by
  unfold lvD
  cases c : (ballM es n x d).testBit y
  ·simp only [Bool.false_eq_true, ↓reduceIte]
   constructor
   ·intro h;exact .inl h
   ·rintro (h | h)
    ·exact h
    ·by_cases e : d + 1 ≤ r
     ·exact e
     ·have := ballM_le h (d - r)
      rw [show r + (d - r) = d by omega, c] at this;cases this
  ·simp only [↓reduceIte]
   rw [lvD_in d c]
   constructor
   ·rintro (g | g)
    ·right
     have := ballM_le c (r - d)
     rwa [show d + (r - d) = r by omega] at this
    ·exact .inr g
   ·rintro (g | g)
    ·exact .inl (by omega)
    ·exact .inr g

/-- The row of distances behind some steps. -/
def rowD (es : List S80) (n x d : Nat) (y : Nat) : Int := if (ballM es n x d).testBit y then (lvD es n x y d : Int) else -1

/-- The row within a step: p tells who is reached newly. -/
def rowP (es : List S80) (n x d : Nat) (p : Nat → Bool) (y : Nat) : Int := if (ballM es n x d).testBit y then (lvD es n x y d : Int) else if p y then (d : Int) + 1 else -1

def layD (es : List S80) (n x d y : Nat) : Bool := (ballM es n x d).testBit y && decide (lvD es n x y d = d)

def newP (es : List S80) (n x d : Nat) : Nat → Nat → Bool
 | 0, _ => false
 | y + 1, z => newP es n x d y z || (layD es n x d y && near es y z)

theorem newP_iff {es : List S80} {n x d z : Nat} : ∀ y, newP es n x d y z = true ↔ ∃ u, u < y ∧ layD es n x d u = true ∧ near es u z = true
 | 0 => by simp [newP]
 | y + 1 => by
  rw [newP, Bool.or_eq_true, Bool.and_eq_true, newP_iff y]
  constructor
  ·rintro (⟨u, h, g⟩ | g)
   ·exact ⟨u, by omega, g⟩
   ·exact ⟨y, by omega, g⟩
  ·rintro ⟨u, h, g⟩
   by_cases e : u = y
   ·subst e;exact .inr g
   ·exact .inl ⟨u, by omega, g⟩

theorem rowP_end {es : List S80} {n x d : Nat} (hx : x < n) : rowF n (rowP es n x d (newP es n x d n)) = rowF n (rowD es n x (d + 1)) := by
 refine rowF_ext (fun z hz => ?_)
 unfold rowP rowD
 cases c : (ballM es n x d).testBit z
 ·have key : (ballM es n x (d + 1)).testBit z = newP es n x d n z := by
   rw [Bool.eq_iff_iff, newP_iff]
   show (aroM es n (ballM es n x d)).testBit z = true ↔ _
   rw [aroM_bit]
   constructor
   ·rintro (h | ⟨u, h1, h2, h3⟩)
    ·rw [c] at h;cases h
    ·rw [nb_bit] at h3
     simp only [Bool.and_eq_true, decide_eq_true_eq] at h3
     refine ⟨u, h1, ?_, h3.2⟩
     unfold layD
     rw [h2, Bool.true_and, decide_eq_true_eq, lvD_eq]
     by_cases e : d = 0
     ·exact .inl e
     ·right
      cases g : (ballM es n x (d - 1)).testBit u
      ·rfl
      ·exfalso
       have : (ballM es n x (d - 1 + 1)).testBit z = true := (aroM_bit _ _ _ _).2 (.inr ⟨u, h1, g, by rw [nb_bit];simp [hz, h3.2]⟩)
       rw [show d - 1 + 1 = d by omega, c] at this;cases this
   ·rintro ⟨u, h1, h2, h3⟩
    unfold layD at h2
    rw [Bool.and_eq_true] at h2
    exact .inr ⟨u, h1, h2.1, by rw [nb_bit];simp [hz, h3]⟩
  rw [key]
  simp only [Bool.false_eq_true, ↓reduceIte]
  cases newP es n x d n z
  ·rfl
  ·simp only [↓reduceIte, lvD, c, Bool.false_eq_true];omega
 ·have h1 : (ballM es n x (d + 1)).testBit z = true := ballM_mono c
  simp only [h1, ↓reduceIte, lvD, c]

theorem rowP_begin {es : List S80} {n x d : Nat} : rowF n (rowD es n x d) = rowF n (rowP es n x d (newP es n x d 0)) := by
 refine rowF_ext (fun z _ => ?_)
 unfold rowP rowD
 simp [newP]

def distL (es : List S80) (n : Nat) : List (List Int) := (List.range n).map (fun x => rowF n (rowD es n x n))

theorem l2Dist_l4 {es : List S80} {n x d y : Nat} {acc : List (List Int)} {res : List (List Int)} (hn : n ≤ 8) (hl : es.length ≤ 9223372036854775807) (hd : d < n) (hy : y < n)
  (hend : Ev (fun k => spec_l2Dist.l3 k acc x (rowF n (rowP es n x d (newP es n x d (y + 1)))) d ((y + 1 : Nat) : Int) n es) res) :
  Ev (fun k => spec_l2Dist.l4 k acc x (rowF n (rowP es n x d (newP es n x d y))) d y 0 n es) res := by
 have H := down n (fun z => Ev (fun k => spec_l2Dist.l4 k acc x (rowF n (rowP es n x d (fun u => newP es n x d y u || (decide (u < z) && (layD es n x d y && near es y u))))) d y z n es) res) ?_ ?_ 0 (by omega)
 ·have e : rowF n (rowP es n x d (newP es n x d y)) = rowF n (rowP es n x d (fun u => newP es n x d y u || (decide (u < 0) && (layD es n x d y && near es y u)))) := rowF_ext (fun u _ => by unfold rowP;simp)
  rw [e];exact H
 ·show Ev _ _
  rw [Ev.iff_succ]
  simp only [spec_l2Dist.l4, Int.lt_irrefl, ↓reduceIte, w64_succ y (by omega)]
  have e : rowF n (rowP es n x d (fun u => newP es n x d y u || (decide (u < n) && (layD es n x d y && near es y u)))) = rowF n (rowP es n x d (newP es n x d (y + 1))) := rowF_ext (fun u hu => by unfold rowP;simp [newP, hu])
  rw [e];exact hend
 ·intro z hz ih
  show Ev _ _
  rw [Ev.iff_succ]
  have h1 : (z : Int) < (n : Int) := by omega
  have h2 : (0 : Int) ≤ y := by omega
  have h3 : (y : Int) < (n : Int) := by omega
  have h4 : (0 : Int) ≤ z := by omega
  simp only [spec_l2Dist.l4, Ev.ite_iff, h1, h2, h3, h4, ↓reduceIte, rowF_len, rowF_rd hy, rowF_rd hz, Ev.bind_iff (l2Near_ev n es y z hl), w64_succ z (by omega), w64_succ d (by omega), Int.toNat_natCast, rowF_set hz]
  have hlay : rowP es n x d (fun u => newP es n x d y u || (decide (u < z) && (layD es n x d y && near es y u))) y = (d : Int) ↔ layD es n x d y = true := by
   unfold rowP layD
   cases c : (ballM es n x d).testBit y
   ·simp only [Bool.false_eq_true, ↓reduceIte, Bool.false_and, iff_false]
    split <;> omega
   ·simp only [↓reduceIte, Bool.true_and, decide_eq_true_eq];omega
  by_cases cl : layD es n x d y = true
  ·rw [if_pos (hlay.2 cl)]
   rw [cl] at ih ⊢
   simp only [Bool.true_and] at ih ⊢
   by_cases c : rowP es n x d (fun u => newP es n x d y u || (decide (u < z) && near es y u)) z < 0
   ·rw [if_pos c]
    have hb : (ballM es n x d).testBit z = false := by
     cases hb : (ballM es n x d).testBit z
     ·rfl
     ·unfold rowP at c;rw [hb] at c;simp only [↓reduceIte] at c;omega
    cases hnr : near es y z
    ·rw [if_neg (by simp)]
     have e : rowF n (rowP es n x d (fun u => newP es n x d y u || (decide (u < z + 1) && near es y u))) = rowF n (rowP es n x d (fun u => newP es n x d y u || (decide (u < z) && near es y u))) := rowF_ext (fun u _ => by
      unfold rowP
      by_cases eu : u = z
      ·subst eu;simp [hnr]
      ·have : decide (u < z + 1) = decide (u < z) := by rw [decide_eq_decide];omega
       simp only [this])
     rw [e] at ih;exact ih
    ·rw [if_pos rfl]
     have e : rowF n (rowP es n x d (fun u => newP es n x d y u || (decide (u < z + 1) && near es y u))) = rowF n (fun u => if u = z then ((d + 1 : Nat) : Int) else rowP es n x d (fun u => newP es n x d y u || (decide (u < z) && near es y u)) u) := rowF_ext (fun u _ => by
      unfold rowP
      by_cases eu : u = z
      ·subst eu;simp [hnr, hb]
      ·have : decide (u < z + 1) = decide (u < z) := by rw [decide_eq_decide];omega
       simp only [this, eu, ↓reduceIte])
     rw [e] at ih;exact ih
   ·rw [if_neg c]
    have e : rowF n (rowP es n x d (fun u => newP es n x d y u || (decide (u < z + 1) && near es y u))) = rowF n (rowP es n x d (fun u => newP es n x d y u || (decide (u < z) && near es y u))) := rowF_ext (fun u _ => by
     by_cases eu : u = z
     ·subst eu
      unfold rowP at c ⊢
      cases hb : (ballM es n x d).testBit u
      ·rw [hb] at c
       simp only [Bool.false_eq_true, ↓reduceIte, Nat.lt_irrefl, decide_false, Bool.false_and, Bool.or_false] at c ⊢
       by_cases hp : newP es n x d y u = true
       ·simp [hp]
       ·rw [if_neg hp] at c;exact absurd (by decide : (-1 : Int) < 0) c
      ·simp
     ·unfold rowP
      have : decide (u < z + 1) = decide (u < z) := by rw [decide_eq_decide];omega
      simp only [this])
    rw [e] at ih;exact ih
  ·rw [if_neg (fun h => cl (hlay.1 h))]
   have cl' : layD es n x d y = false := Bool.eq_false_iff.2 cl
   rw [cl'] at ih ⊢
   simp only [Bool.false_and, Bool.and_false, Bool.or_false] at ih ⊢
   exact ih

theorem l2Dist_l3 {es : List S80} {n x d : Nat} {acc : List (List Int)} {res : List (List Int)} (hn : n ≤ 8) (hl : es.length ≤ 9223372036854775807) (hx : x < n) (hd : d < n)
  (hend : Ev (fun k => spec_l2Dist.l2 k acc x (rowF n (rowD es n x (d + 1))) ((d + 1 : Nat) : Int) n es) res) :
  Ev (fun k => spec_l2Dist.l3 k acc x (rowF n (rowD es n x d)) d 0 n es) res := by
 have H := down n (fun y => Ev (fun k => spec_l2Dist.l3 k acc x (rowF n (rowP es n x d (newP es n x d y))) d y n es) res) ?_ ?_ 0 (by omega)
 ·rw [rowP_begin];exact H
 ·show Ev _ _
  rw [Ev.iff_succ]
  simp only [spec_l2Dist.l3, Int.lt_irrefl, ↓reduceIte, w64_succ d (by omega), rowP_end hx]
  exact hend
 ·intro y hy ih
  show Ev _ _
  rw [Ev.iff_succ]
  have h1 : (y : Int) < (n : Int) := by omega
  simp only [spec_l2Dist.l3, h1, ↓reduceIte]
  exact l2Dist_l4 hn hl hd hy ih

end Go.Proofs.Ytaddgielnfhhpaa.QBurningNumber
