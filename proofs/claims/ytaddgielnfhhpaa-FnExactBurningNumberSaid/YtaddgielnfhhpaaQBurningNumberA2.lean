import Derived.Test.YtaddgielnfhhpaaQBurningNumber0
import Derived.Test.YtaddgielnfhhpaaQBurningNumber2
import Derived.Test.YtaddgielnfhhpaaQBurningNumber4
import Derived.Test.YtaddgielnfhhpaaQBurningNumber5
import Derived.Test.YtaddgielnfhhpaaQBurningNumber7
import Derived.Test.YtaddgielnfhhpaaQBurningNumberA1
namespace Go.Proofs.Ytaddgielnfhhpaa.QBurningNumber
open Go.RowKit Go.Proofs.YtaddgielnfhhpaaW.PrintWords Go.Proofs.YtaddgielnfhhpaaW.PrintLast Go.Proofs.YtaddgielnfhhpaaW.PrintMore
attribute [local go_sem] max2_int min2_int max_two min_two max_three min_three max_four min_four   -- for this text's walks alone
set_option linter.unusedVariables false
set_option linter.unusedSimpArgs false
theorem l2Dist_l2 {es : List S80} {n x : Nat} {acc : List (List Int)} {res : List (List Int)} (hn : n ≤ 8) (hl : es.length ≤ 9223372036854775807) (hx : x < n) (ha : acc.length < 1000)
  (hend : Ev (fun k => spec_l2Dist.l0 k (acc ++ [rowF n (rowD es n x n)]) ((x + 1 : Nat) : Int) n es) res) :
  Ev (fun k => spec_l2Dist.l2 k acc x (rowF n (rowD es n x 0)) 0 n es) res := by
 refine down n (fun d => Ev (fun k => spec_l2Dist.l2 k acc x (rowF n (rowD es n x d)) d n es) res) ?_ ?_ 0 (by omega)
 ·show Ev _ _
  rw [Ev.iff_succ]
  have h1 : acc.length < 5864062014805 := by omega
  simp only [spec_l2Dist.l2, Int.lt_irrefl, ↓reduceIte, w64_succ x (by omega), h1]
  exact hend
 ·intro d hd ih
  show Ev _ _
  rw [Ev.iff_succ]
  have h1 : (d : Int) < (n : Int) := by omega
  simp only [spec_l2Dist.l2, h1, ↓reduceIte]
  exact l2Dist_l3 hn hl hx hd ih

theorem l2Dist_l1 {es : List S80} {n x : Nat} {acc : List (List Int)} {res : List (List Int)} (hn : n ≤ 8) (hl : es.length ≤ 9223372036854775807) (hx : x < n) (ha : acc.length < 1000)
  (hend : Ev (fun k => spec_l2Dist.l0 k (acc ++ [rowF n (rowD es n x n)]) ((x + 1 : Nat) : Int) n es) res) :
  Ev (fun k => spec_l2Dist.l1 k acc x [] 0 n es) res := by
 have H := down n (fun i => Ev (fun k => spec_l2Dist.l1 k acc x (List.replicate i (-1)) i n es) res) ?_ ?_ 0 (by omega)
 ·exact H
 ·show Ev _ _
  rw [Ev.iff_succ]
  have h2 : (0 : Int) ≤ x := by omega
  have h3 : (x : Int) < (n : Int) := by omega
  simp only [spec_l2Dist.l1, Int.lt_irrefl, ↓reduceIte, h2, List.length_replicate, h3, Int.toNat_natCast]
  have e : (List.replicate n (-1 : Int)).set x 0 = rowF n (rowD es n x 0) := by
   have e1 : List.replicate n (-1 : Int) = rowF n (fun _ => -1) := by
    apply List.ext_getElem
    ·simp [rowF]
    ·intro i h1 h2;simp [rowF]
   rw [e1, rowF_set hx]
   refine rowF_ext (fun y _ => ?_)
   unfold rowD
   simp only [ballM, lvD, Nat.testBit_two_pow]
   by_cases e : y = x
   ·subst e;simp
   ·rw [if_neg e, if_neg (by simp only [decide_eq_true_eq];omega)]
  rw [e]
  exact l2Dist_l2 hn hl hx ha hend
 ·intro i hi ih
  show Ev _ _
  rw [Ev.iff_succ]
  have h1 : (i : Int) < (n : Int) := by omega
  have h4 : i < 17592186044416 := by omega
  simp only [spec_l2Dist.l1, h1, ↓reduceIte, List.length_replicate, h4, w64_succ i (by omega)]
  rw [List.replicate_succ'] at ih
  exact ih

theorem l2Dist_ev (es : List S80) (n : Nat) (hn : n ≤ 8) (hl : es.length ≤ 9223372036854775807) : Ev (fun k => spec_l2Dist.f k n es) (distL es n) := by
 have H := down n (fun x => Ev (fun k => spec_l2Dist.l0 k ((List.range x).map (fun x => rowF n (rowD es n x n))) x n es) (distL es n)) ?_ ?_ 0 (by omega)
 ·exact H
 ·show Ev _ _
  rw [Ev.iff_succ]
  simp only [spec_l2Dist.l0, Int.lt_irrefl, ↓reduceIte, Ev.now_iff, distL]
 ·intro x hx ih
  show Ev _ _
  rw [Ev.iff_succ]
  have h1 : (x : Int) < (n : Int) := by omega
  simp only [spec_l2Dist.l0, h1, ↓reduceIte]
  refine l2Dist_l1 hn hl hx (by simp;omega) ?_
  rw [List.range_succ, List.map_append] at ih
  exact ih

theorem distL_rd {es : List S80} {n x : Nat} (h : x < n) : rd_L2 (distL es n) x = rowF n (rowD es n x n) := by simp [rd_L2, distL, h]

theorem l2Within_ev (es : List S80) (n x r : Nat) (hn : n ≤ 8) (hx : x < n) (hr : r < 1000) (hl : es.length ≤ 9223372036854775807) : Ev (fun k => spec_l2Within.f k n es x r) (bl n (ballM es n x r)) := by
 have h2 : (0 : Int) ≤ x := by omega
 have h3 : (x : Int) < ((distL es n).length : Int) := by simp [distL];omega
 unfold spec_l2Within.f
 rw [Ev.bind_iff (l2Dist_ev es n hn hl)]
 simp only [h2, h3, ↓reduceIte, distL_rd hx]
 have hin : ∀ y, y < n → ((0 ≤ rowD es n x n y ∧ rowD es n x n y ≤ (r : Int)) ↔ (ballM es n x r).testBit y = true) := fun y hy => by
  unfold rowD
  cases c : (ballM es n x n).testBit y
  ·simp only [Bool.false_eq_true, ↓reduceIte]
   constructor
   ·intro h;omega
   ·intro h
    exfalso
    by_cases e : r ≤ n
    ·have := ballM_le h (n - r)
     rw [show r + (n - r) = n by omega, c] at this;cases this
    ·rw [show r = n + (r - n) by omega, ballM_end hx, c] at h;cases h
  ·simp only [↓reduceIte]
   have := lvD_in (es := es) (r := r) n c
   constructor
   ·intro h
    rcases this.1 (by omega) with g | g
    ·have g2 := ballM_le c (r - n)
     rwa [show n + (r - n) = r by omega] at g2
    ·exact g
   ·intro h
    have := this.2 (.inr h)
    omega
 have H := down n (fun i => Ev (fun k => spec_l2Within.l0 k r (bl i (ballM es n x r)) (rowF n (rowD es n x n)) i n es) (bl n (ballM es n x r))) ?_ ?_ 0 (by omega)
 ·simpa [bl] using H
 ·show Ev _ _
  rw [Ev.iff_succ]
  simp [spec_l2Within.l0, Ev.now_iff]
 ·intro i hi ih
  show Ev _ _
  rw [Ev.iff_succ]
  have g1 : (i : Int) < (n : Int) := by omega
  have g2 : (0 : Int) ≤ i := by omega
  have g3 := bl_len_le i (ballM es n x r)
  have g4 : (bl i (ballM es n x r)).length < 17592186044416 := by omega
  have hii := hin i hi
  rw [bl_step hi] at ih
  simp only [spec_l2Within.l0, Ev.ite_iff, g1, g2, g4, ↓reduceIte, rowF_len, rowF_rd hi, l1In_eq, Option.bind_some, w64_succ i (by omega), decide_eq_true_eq, hii]
  cases c : (ballM es n x r).testBit i
  ·rw [c] at ih;simpa using ih
  ·rw [c] at ih;simpa using ih

theorem filter_or_le (p q : Nat → Bool) : ∀ l : List Nat, (l.filter fun x => p x || q x).length ≤ (l.filter p).length + (l.filter q).length
 | [] => by simp
 | a :: l => by
  have ih := filter_or_le p q l
  simp only [List.filter_cons]
  cases p a <;> cases q a <;> simp <;> omega

theorem bl_or_le (n a b : Nat) : (bl n (a ||| b)).length ≤ (bl n a).length + (bl n b).length := by
 rw [bl_len, bl_len, bl_len]
 have := filter_or_le (fun x => a.testBit x) (fun x => b.testBit x) (List.range n)
 simpa only [Nat.testBit_or] using this

/-- The first nodes of a burning, j of them left, that cover what is not covered yet. -/
def burnF (es : List S80) (n : Nat) : Nat → Nat → Option (List Nat)
 | 0, c => if c = 2 ^ n - 1 then some [] else none
 | j + 1, c => (List.range n).findSome? fun x => (burnF es n j (c ||| ballM es n x j)).map (x :: ·)

def intsN (l : List Nat) : List Int := l.map fun (x : Nat) => (x : Int)

def outF (b : List Int) : Option (List Nat) → List Int × Bool
 | some r => (b ++ intsN r, true)
 | none => ([], false)

theorem burnF_len {es : List S80} {n : Nat} : ∀ (j c : Nat) (r : List Nat), burnF es n j c = some r → r.length = j
 | 0, c, r, h => by
  unfold burnF at h
  split at h
  ·injection h with h;rw [← h];rfl
  ·cases h
 | j + 1, c, r, h => by
  unfold burnF at h
  obtain ⟨x, _, h2⟩ := List.exists_of_findSome?_eq_some h
  obtain ⟨r', h3, rfl⟩ := Option.map_eq_some_iff.1 h2
  rw [List.length_cons, burnF_len j _ r' h3]

/-- So many nodes the balls of a radius have at most. -/
def mostTo (es : List S80) (n r x : Nat) : Nat := (List.range x).foldl (fun m y => max m (bl n (ballM es n y r)).length) 0

theorem mostTo_succ (es : List S80) (n r x : Nat) : mostTo es n r (x + 1) = max (mostTo es n r x) (bl n (ballM es n x r)).length := by unfold mostTo; rw [List.range_succ, List.foldl_append]; rfl

theorem mostTo_le (es : List S80) (n r : Nat) : ∀ x, mostTo es n r x ≤ n
 | 0 => Nat.zero_le _
 | x + 1 => by
  rw [mostTo_succ]
  have := mostTo_le es n r x
  have := bl_len_le n (ballM es n x r)
  omega

theorem le_mostTo {es : List S80} {n r y : Nat} : ∀ x, y < x → (bl n (ballM es n y r)).length ≤ mostTo es n r x
 | 0, h => by omega
 | x + 1, h => by
  rw [mostTo_succ]
  by_cases e : y = x
  ·subst e;omega
  ·have := le_mostTo (es := es) (n := n) (r := r) x (by omega : y < x);omega

def roomN (es : List S80) (n : Nat) : Nat → Nat
 | 0 => 0
 | r + 1 => roomN es n r + mostTo es n r n

theorem roomN_le (es : List S80) (n : Nat) : ∀ r, roomN es n r ≤ r * n
 | 0 => by simp [roomN]
 | r + 1 => by
  have h1 := roomN_le es n r
  have h2 := mostTo_le es n r n
  rw [roomN, Nat.succ_mul];omega

/-- What lacks more nodes than the balls can have is never covered. -/
theorem burnF_room {es : List S80} {n : Nat} (hn : n ≤ 8) : ∀ (j c : Nat) (r : List Nat), c < 2 ^ n → burnF es n j c = some r → n ≤ (bl n c).length + roomN es n j
 | 0, c, r, hc, h => by
  unfold burnF at h
  split at h
  ·rename_i e
   have := (bl_len_full n hn c hc).2 e
   omega
  ·cases h
 | j + 1, c, r, hc, h => by
  unfold burnF at h
  obtain ⟨x, hx, h2⟩ := List.exists_of_findSome?_eq_some h
  obtain ⟨r', h3, rfl⟩ := Option.map_eq_some_iff.1 h2
  have hx := List.mem_range.1 hx
  have hB := ballM_lt (es := es) hx j
  have h4 := burnF_room hn j _ r' (Nat.or_lt_two_pow hc hB) h3
  have h5 := bl_or_le n c (ballM es n x j)
  have h6 := le_mostTo (es := es) (n := n) (r := j) n hx
  rw [roomN];omega

theorem miss_node {n c : Nat} (hn : n ≤ 8) (hc : c < 2 ^ n) (h : c ≠ 2 ^ n - 1) : ∃ y, y < n ∧ c.testBit y = false := by
 refine Classical.byContradiction fun hno => h ?_
 refine mask_ext hc (by have := Nat.two_pow_pos n;omega) (fun i hi => ?_)
 rw [Nat.testBit_two_pow_sub_one]
 cases e : c.testBit i
 ·exact absurd ⟨i, hi, e⟩ hno
 ·simp [hi]

theorem burnF_some {es : List S80} {n : Nat} (hn : n ≤ 8) : ∀ (j c : Nat), c < 2 ^ n → n ≤ (bl n c).length + j → (j = 0 ∨ 0 < n) → (burnF es n j c).isSome = true
 | 0, c, hc, h, _ => by
  unfold burnF
  have hl := bl_len_le n c
  rw [if_pos ((bl_len_full n hn c hc).1 (by omega))];rfl
 | j + 1, c, hc, h, h0 => by
  have hn0 : 0 < n := by omega
  unfold burnF
  rw [List.findSome?_isSome_iff]
  have key : ∃ y, y < n ∧ n ≤ (bl n (c ||| ballM es n y j)).length + j := by
   have hmono : ∀ y, (bl n c).length ≤ (bl n (c ||| ballM es n y j)).length := fun y => by
    rw [bl_len, bl_len];exact (cnt_mono n (fun i _ hi => by rw [Nat.testBit_or, hi];rfl)).1
   by_cases e : c = 2 ^ n - 1
   ·have := (bl_len_full n hn c hc).2 e
    have := hmono 0
    exact ⟨0, hn0, by omega⟩
   ·obtain ⟨y, hy, hb⟩ := miss_node hn hc e
    refine ⟨y, hy, ?_⟩
    have h1 := hmono y
    by_cases e2 : (bl n (c ||| ballM es n y j)).length ≤ (bl n c).length
    ·have h2 := sub_len hc (Nat.or_lt_two_pow hc (ballM_lt (es := es) hy j)) (fun i _ hi => by rw [Nat.testBit_or, hi];rfl) e2
     have h3 := congrArg (fun z => z.testBit y) h2
     simp only [Nat.testBit_or, hb, ballM_self (es := es) (n := n) (x := y) j] at h3
     cases h3
    ·omega
  obtain ⟨y, hy, hl⟩ := key
  refine ⟨y, List.mem_range.2 hy, ?_⟩
  rw [Option.isSome_map]
  exact burnF_some hn j _ (Nat.or_lt_two_pow hc (ballM_lt (es := es) hy j)) hl (.inr hn0)

def ballsL (es : List S80) (n : Nat) : List (List (List Int)) := (List.range n).map fun x => (List.range n).map fun r => bl n (ballM es n x r)

def roomL (es : List S80) (n m : Nat) : List Int := (List.range m).map fun r => ((roomN es n r : Nat) : Int)

theorem ballsL_rd {es : List S80} {n x : Nat} (hx : x < n) : rd_L3 (ballsL es n) (x : Int) = (List.range n).map fun r => bl n (ballM es n x r) := by simp [rd_L3, ballsL, hx]

theorem ballsL_row {es : List S80} {n x r : Nat} (hr : r < n) : rd_L2 ((List.range n).map fun r => bl n (ballM es n x r)) (r : Int) = bl n (ballM es n x r) := by simp [rd_L2, hr]

theorem roomL_rd {es : List S80} {n m r : Nat} (hr : r < m) : rd (roomL es n m) (r : Int) = (roomN es n r : Nat) := by simp [rd, roomL, hr]

theorem findSome_drop2 {β : Type} {N i : Nat} (h : i < N) (f : Nat → Option β) : ((List.range N).drop i).findSome? f = (f i).or (((List.range N).drop (i + 1)).findSome? f) := by
 rw [List.drop_eq_getElem_cons (by simpa using h), List.getElem_range, List.findSome?_cons]
 cases f i <;> rfl

theorem bl_zero' (n : Nat) : bl n 0 = [] := List.eq_nil_iff_forall_not_mem.2 (fun x hx => by obtain ⟨i, _, h2, _⟩ := mem_bl.1 hx; simp at h2)

theorem l8Complete_ev {es : List S80} {n k : Nat} (hn : n ≤ 8) (hk : k ≤ n) : ∀ (j c : Nat) (b : List Int), c < 2 ^ n → b.length + j = k →
  Ev (fun g => spec_l8Complete.f g (ballsL es n) (roomL es n (n + 1)) k b (bl n c)) (outF b (burnF es n j c))
 | j, c, b, hc, hb => by
  have hcl := bl_len_le n c
  have hbl : (ballsL es n).length = n := by simp [ballsL]
  have hrl : (roomL es n (n + 1)).length = n + 1 := by simp [roomL]
  have hrm := roomN_le es n j
  have e1 : wrap64 ((k : Int) - (b.length : Int)) = (j : Int) := by rw [w64 (by omega) (by omega)];omega
  rw [Ev.iff_succ]
  simp only [spec_l8Complete.f, e1, hrl, hbl]
  rw [Ev.ite_iff, if_pos (by omega), Ev.ite_iff, if_pos (by omega), roomL_rd (by omega), w64 (by omega) (by omega), Ev.ite_iff]
  by_cases p : ((n : Int) - ((bl n c).length : Int)) > ((roomN es n j : Nat) : Int)
  ·rw [if_pos p, Ev.now_iff]
   have : burnF es n j c = none := by
    cases h : burnF es n j c with
    | none => rfl
    | some r => have := burnF_room hn j c r hc h;omega
   rw [this];rfl
  ·rw [if_neg p, Ev.ite_iff]
   match j, hb, e1, hrm, p with
   | 0, hb, _, _, p =>
    rw [if_pos (by omega), Ev.now_iff]
    simp only [roomN] at p
    unfold burnF
    rw [if_pos ((bl_len_full n hn c hc).1 (by omega))]
    simp [outF, intsN]
   | j + 1, hb, _, _, _ =>
    rw [if_neg (by omega)]
    unfold burnF
    have H := down n (fun x => Ev (fun g => spec_l8Complete.l0 g (ballsL es n) (roomL es n (n + 1)) k b (bl n c) x) (outF b (((List.range n).drop x).findSome? fun x => (burnF es n j (c ||| ballM es n x j)).map (x :: ·)))) ?_ ?_ 0 (by omega)
    ·exact H
    ·show Ev _ _
     rw [List.drop_eq_nil_of_le (by rw [List.length_range];exact Nat.le_refl _), Ev.iff_succ]
     simp only [spec_l8Complete.l0, hbl, Int.lt_irrefl, ↓reduceIte, List.findSome?_nil, outF, Ev.now_iff]
    ·intro x hx ih
     show Ev _ _
     have hB := ballM_lt (es := es) hx j
     have hcB : c ||| ballM es n x j < 2 ^ n := Nat.or_lt_two_pow hc hB
     have hBl := bl_len_le n (ballM es n x j)
     have e2 : wrap64 (wrap64 ((k : Int) - 1) - (b.length : Int)) = (j : Int) := by
      have e4 : wrap64 ((k : Int) - 1) = (k : Int) - 1 := w64 (by omega) (by omega)
      rw [e4, w64 (by omega) (by omega)];omega
     have e3 : ((List.range n).map fun r => bl n (ballM es n x r)).length = n := by simp
     rw [findSome_drop2 hx, Ev.iff_succ]
     simp only [spec_l8Complete.l0, hbl]
     rw [Ev.ite_iff, if_pos (by omega), l1Own_eq (by omega)]
     simp only [Option.bind_some, e2]
     rw [Ev.ite_iff, if_pos (by omega), Ev.ite_iff, if_pos (by omega), Ev.ite_iff, if_pos (by rw [ballsL_rd hx, e3];omega), ballsL_rd hx, ballsL_row (by omega)]
     have hrec := l8Complete_ev (es := es) hn hk j (c ||| ballM es n x j) (b ++ [(x : Int)]) hcB (by rw [List.length_append, List.length_singleton];omega)
     have G := down (bl n (ballM es n x j)).length (fun i => ∀ a : Nat, a < 2 ^ n → a ||| mL ((bl n (ballM es n x j)).drop i) = c ||| ballM es n x j → Ev (fun g => spec_l8Complete.l1 g (ballsL es n) (roomL es n (n + 1)) k b (bl n c) x (bl n a) (bl n (ballM es n x j)) i) (outF b (((burnF es n j (c ||| ballM es n x j)).map (x :: ·)).or (((List.range n).drop (x + 1)).findSome? fun x => (burnF es n j (c ||| ballM es n x j)).map (x :: ·))))) ?_ ?_ 0 (by omega)
     ·exact G c hc (by rw [List.drop_zero, mL_bl hB])
     ·intro a ha hm
      show Ev _ _
      rw [List.drop_eq_nil_of_le (Nat.le_refl _)] at hm
      simp only [mL, Nat.or_zero] at hm
      subst hm
      rw [Ev.iff_succ]
      simp only [spec_l8Complete.l1, Int.lt_irrefl, ↓reduceIte]
      rw [l1Own_eq (by omega)]
      simp only [Option.bind_some]
      rw [Ev.ite_iff, if_pos (by omega), Ev.bind_iff hrec]
      cases hf : burnF es n j (c ||| ballM es n x j) with
      | none =>
       simp only [outF, Option.map_none, Option.none_or, Bool.false_eq_true, ↓reduceIte]
       rw [w64_succ x (by omega)]
       exact ih
      | some r => simp [outF, intsN, Ev.now_iff]
     ·intro i hi ih2 a ha hm
      show Ev _ _
      obtain ⟨y, hy1, hy2, hye⟩ := mem_bl.1 (List.getElem_mem hi)
      rw [Ev.iff_succ]
      simp only [spec_l8Complete.l1]
      rw [Ev.ite_iff, if_pos (by omega), Ev.ite_iff, if_pos (by omega), rd_lt _ i hi, hye, l1Put_bl hn hy1]
      simp only [Option.bind_some]
      rw [w64_succ i (by omega)]
      refine ih2 (a ||| 2 ^ y) (Nat.or_lt_two_pow ha (Nat.pow_lt_pow_right (by decide) hy1)) ?_
      rw [← hm, List.drop_eq_getElem_cons hi, hye]
      simp only [mL, Int.toNat_natCast]
      rw [Nat.or_assoc]

theorem l8Room_ev {es : List S80} {n : Nat} (hn : n ≤ 8) : Ev (fun g => spec_l8Room.f g (ballsL es n)) (roomL es n (n + 1)) := by
 have hbl : (ballsL es n).length = n := by simp [ballsL]
 have H := down n (fun r => Ev (fun g => spec_l8Room.l0 g (ballsL es n) (roomL es n (r + 1)) r) (roomL es n (n + 1))) ?_ ?_ 0 (by omega)
 ·have e0 : roomL es n 1 = [0] := by simp [roomL, roomN]
  rw [Nat.zero_add, e0] at H
  exact H
 ·show Ev _ _
  rw [Ev.iff_succ]
  simp only [spec_l8Room.l0, hbl, Int.lt_irrefl, ↓reduceIte, Ev.now_iff]
 ·intro r hr ih
  show Ev _ _
  rw [Ev.iff_succ]
  simp only [spec_l8Room.l0, hbl]
  rw [Ev.ite_iff, if_pos (by omega)]
  have hrl : (roomL es n (r + 1)).length = r + 1 := by simp [roomL]
  have hrm := roomN_le es n r
  have hrn : r * n ≤ 64 := Nat.le_trans (Nat.mul_le_mul (by omega : r ≤ 8) hn) (by decide)
  have G := down n (fun x => Ev (fun g => spec_l8Room.l1 g (ballsL es n) (roomL es n (r + 1)) r (mostTo es n r x : Nat) x) (roomL es n (n + 1))) ?_ ?_ 0 (by omega)
  ·exact G
  ·show Ev _ _
   have hm := mostTo_le es n r n
   rw [Ev.iff_succ]
   simp only [spec_l8Room.l1, hbl, Int.lt_irrefl, ↓reduceIte, hrl]
   rw [Ev.ite_iff, if_pos (by omega), Ev.ite_iff, if_pos (by omega), Ev.ite_iff, if_pos (by omega), roomL_rd (by omega), w64 (by omega) (by omega), w64_succ r (by omega)]
   have e : roomL es n (r + 1) ++ [((roomN es n r : Nat) : Int) + ((mostTo es n r n : Nat) : Int)] = roomL es n (r + 1 + 1) := by
    simp only [roomL]
    rw [List.range_succ (n := r + 1), List.map_append]
    simp [roomN]
   rw [e]
   exact ih
  ·intro x hx jh
   show Ev _ _
   rw [Ev.iff_succ]
   simp only [spec_l8Room.l1, hbl]
   have e3 : ((List.range n).map fun r => bl n (ballM es n x r)).length = n := by simp
   rw [Ev.ite_iff, if_pos (by omega), Ev.ite_iff, if_pos (by omega), Ev.ite_iff, if_pos (by omega), Ev.ite_iff, if_pos (by rw [ballsL_rd hx, e3];omega), ballsL_rd hx, ballsL_row (by omega), l1Most_eq]
   simp only [Option.bind_some]
   rw [w64_succ x (by omega)]
   have e : (if ((mostTo es n r x : Nat) : Int) > ((bl n (ballM es n x r)).length : Int) then ((mostTo es n r x : Nat) : Int) else ((bl n (ballM es n x r)).length : Int)) = ((mostTo es n r (x + 1) : Nat) : Int) := by
    rw [mostTo_succ];split <;> omega
   rw [e]
   exact jh

/-- The first burning with the fewest nodes. -/
def burnR (es : List S80) (n : Nat) : List Int := intsN (((List.range (n + 1)).findSome? fun k => burnF es n k 0).getD [])

theorem burnR_drop {es : List S80} {n m : Nat} (h : m < n + 1) : ((List.range (n + 1)).drop m).findSome? (fun k => burnF es n k 0) = (burnF es n m 0).or (((List.range (n + 1)).drop (m + 1)).findSome? fun k => burnF es n k 0) := findSome_drop2 h _

theorem burn_last {es : List S80} {n : Nat} (hn : n ≤ 8) : (burnF es n n 0).isSome = true := burnF_some hn n 0 (Nat.two_pow_pos n) (by omega) (by omega)

end Go.Proofs.Ytaddgielnfhhpaa.QBurningNumber
