import Derived.Test.YtaddgielnfhhpaaQBestBurning0
import Derived.Test.YtaddgielnfhhpaaQBestBurning2
import Derived.Test.YtaddgielnfhhpaaQBestBurning4
import Derived.Test.YtaddgielnfhhpaaQBestBurning5
import Derived.Test.YtaddgielnfhhpaaQBestBurningA1
namespace Go.Proofs.Ytaddgielnfhhpaa.QBestBurning
open Go.RowKit Go.Proofs.YtaddgielnfhhpaaW.PrintWords Go.Proofs.YtaddgielnfhhpaaW.PrintLast Go.Proofs.YtaddgielnfhhpaaW.PrintMore
attribute [local go_sem] max2_int min2_int max_two min_two max_three min_three max_four min_four   -- for this text's walks alone
set_option linter.unusedVariables false
set_option linter.unusedSimpArgs false
theorem l2Dist_l4 {es : List S80} {n x d y : Nat} {acc : List (List Int)} {res : List (List Int)} (hn : n ≤ 8) (hl : es.length ≤ 9223372036854775807) (hd : d < n) (hy : y < n)
  (hend : Ev (fun k => spec_l2Dist.l3 k acc x (rowF n (rowP es n x d (newP es n x d (y + 1)))) d ((y + 1 : Nat) : Int) n es) res) :
  Ev (fun k => spec_l2Dist.l4 k acc x (rowF n (rowP es n x d (newP es n x d y))) d y 0 n es) res := by
 have H := down n (fun z => Ev (fun k => spec_l2Dist.l4 k acc x (rowF n (rowP es n x d (fun u => newP es n x d y u || (decide (u < z) && (layD es n x d y && near es y u))))) d y z n es) res) ?_ ?_ 0 (by omega)
 ·have e : rowF n (rowP es n x d (newP es n x d y)) = rowF n (rowP es n x d (fun u => newP es n x d y u || (decide (u < 0) && (layD es n x d y && near es y u)))) := rowF_ext (fun u _ => by unfold rowP;simp)
  rw [e];exact H
 ·show Ev _ _
  rw [Ev.iff_succ]
  simp only [spec_l2Dist.l4, Int.lt_irrefl, ↓reduceIte, w64_succ y (by omega)]
  have e : rowF n (rowP es n x d (fun u => newP es n x d y u || (decide (u < n) && (layD es n x d y && near es y u)))) = rowF n (rowP es n x d (newP es n x d (y + 1))) := rowF_ext (fun u hu => by unfold rowP;simp [newP, hu])
  rw [e];exact hend
 ·intro z hz ih
  show Ev _ _
  rw [Ev.iff_succ]
  have h1 : (z : Int) < (n : Int) := by omega
  have h2 : (0 : Int) ≤ y := by omega
  have h3 : (y : Int) < (n : Int) := by omega
  have h4 : (0 : Int) ≤ z := by omega
  simp only [spec_l2Dist.l4, Ev.ite_iff, h1, h2, h3, h4, ↓reduceIte, rowF_len, rowF_rd hy, rowF_rd hz, Ev.bind_iff (l2Near_ev n es y z hl), w64_succ z (by omega), w64_succ d (by omega), Int.toNat_natCast, rowF_set hz]
  have hlay : rowP es n x d (fun u => newP es n x d y u || (decide (u < z) && (layD es n x d y && near es y u))) y = (d : Int) ↔ layD es n x d y = true := by
   unfold rowP layD
   cases c : (ballM es n x d).testBit y
   ·simp only [Bool.false_eq_true, ↓reduceIte, Bool.false_and, iff_false]
    split <;> omega
   ·simp only [↓reduceIte, Bool.true_and, decide_eq_true_eq];omega
  by_cases cl : layD es n x d y = true
  ·rw [if_pos (hlay.2 cl)]
   rw [cl] at ih ⊢
   simp only [Bool.true_and] at ih ⊢
   by_cases c : rowP es n x d (fun u => newP es n x d y u || (decide (u < z) && near es y u)) z < 0
   ·rw [if_pos c]
    have hb : (ballM es n x d).testBit z = false := by
     cases hb : (ballM es n x d).testBit z
     ·rfl
     ·unfold rowP at c;rw [hb] at c;simp only [↓reduceIte] at c;omega
    cases hnr : near es y z
    ·rw [if_neg (by simp)]
     have e : rowF n (rowP es n x d (fun u => newP es n x d y u || (decide (u < z + 1) && near es y u))) = rowF n (rowP es n x d (fun u => newP es n x d y u || (decide (u < z) && near es y u))) := rowF_ext (fun u _ => by
      unfold rowP
      by_cases eu : u = z
      ·subst eu;simp [hnr]
      ·have : decide (u < z + 1) = decide (u < z) := by rw [decide_eq_decide];omega
       simp only [this])
     rw [e] at ih;exact ih
    ·rw [if_pos rfl]
     have e : rowF n (rowP es n x d (fun u => newP es n x d y u || (decide (u < z + 1) && near es y u))) = rowF n (fun u => if u = z then ((d + 1 : Nat) : Int) else rowP es n x d (fun u => newP es n x d y u || (decide (u < z) && near es y u)) u) := rowF_ext (fun u _ => by
      unfold rowP
      by_cases eu : u = z
      ·subst eu;simp [hnr, hb]
      ·have : decide (u < z + 1) = decide (u < z) := by rw [decide_eq_decide];omega
       simp only [this, eu, ↓reduceIte])
     rw [e] at ih;exact ih
   ·rw [if_neg c]
    have e : rowF n (rowP es n x d (fun u => newP es n x d y u || (decide (u < z + 1) && near es y u))) = rowF n (rowP es n x d (fun u => newP es n x d y u || (decide (u < z) && near es y u))) := rowF_ext (fun u _ => by
     by_cases eu : u = z
     ·subst eu
      unfold rowP at c ⊢
      cases hb : (ballM es n x d).testBit u
      ·rw [hb] at c
       simp only [Bool.false_eq_true, ↓reduceIte, Nat.lt_irrefl, decide_false, Bool.false_and, Bool.or_false] at c ⊢
       by_cases hp : newP es n x d y u = true
       ·simp [hp]
       ·rw [if_neg hp] at c;exact absurd (by decide : (-1 : Int) < 0) c
      ·simp
     ·unfold rowP
      have : decide (u < z + 1) = decide (u < z) := by rw [decide_eq_decide];omega
      simp only [this])
    rw [e] at ih;exact ih
  ·rw [if_neg (fun h => cl (hlay.1 h))]
   have cl' : layD es n x d y = false := Bool.eq_false_iff.2 cl
   rw [cl'] at ih ⊢
   simp only [Bool.false_and, Bool.and_false, Bool.or_false] at ih ⊢
   exact ih

theorem l2Dist_l3 {es : List S80} {n x d : Nat} {acc : List (List Int)} {res : List (List Int)} (hn : n ≤ 8) (hl : es.length ≤ 9223372036854775807) (hx : x < n) (hd : d < n)
  (hend : Ev (fun k => spec_l2Dist.l2 k acc x (rowF n (rowD es n x (d + 1))) ((d + 1 : Nat) : Int) n es) res) :
  Ev (fun k => spec_l2Dist.l3 k acc x (rowF n (rowD es n x d)) d 0 n es) res := by
 have H := down n (fun y => Ev (fun k => spec_l2Dist.l3 k acc x (rowF n (rowP es n x d (newP es n x d y))) d y n es) res) ?_ ?_ 0 (by omega)
 ·rw [rowP_begin];exact H
 ·show Ev _ _
  rw [Ev.iff_succ]
  simp only [spec_l2Dist.l3, Int.lt_irrefl, ↓reduceIte, w64_succ d (by omega), rowP_end hx]
  exact hend
 ·intro y hy ih
  show Ev _ _
  rw [Ev.iff_succ]
  have h1 : (y : Int) < (n : Int) := by omega
  simp only [spec_l2Dist.l3, h1, ↓reduceIte]
  exact l2Dist_l4 hn hl hd hy ih

theorem l2Dist_l2 {es : List S80} {n x : Nat} {acc : List (List Int)} {res : List (List Int)} (hn : n ≤ 8) (hl : es.length ≤ 9223372036854775807) (hx : x < n) (ha : acc.length < 1000)
  (hend : Ev (fun k => spec_l2Dist.l0 k (acc ++ [rowF n (rowD es n x n)]) ((x + 1 : Nat) : Int) n es) res) :
  Ev (fun k => spec_l2Dist.l2 k acc x (rowF n (rowD es n x 0)) 0 n es) res := by
 refine down n (fun d => Ev (fun k => spec_l2Dist.l2 k acc x (rowF n (rowD es n x d)) d n es) res) ?_ ?_ 0 (by omega)
 ·show Ev _ _
  rw [Ev.iff_succ]
  have h1 : acc.length < 5864062014805 := by omega
  simp only [spec_l2Dist.l2, Int.lt_irrefl, ↓reduceIte, w64_succ x (by omega), h1]
  exact hend
 ·intro d hd ih
  show Ev _ _
  rw [Ev.iff_succ]
  have h1 : (d : Int) < (n : Int) := by omega
  simp only [spec_l2Dist.l2, h1, ↓reduceIte]
  exact l2Dist_l3 hn hl hx hd ih

theorem l2Dist_l1 {es : List S80} {n x : Nat} {acc : List (List Int)} {res : List (List Int)} (hn : n ≤ 8) (hl : es.length ≤ 9223372036854775807) (hx : x < n) (ha : acc.length < 1000)
  (hend : Ev (fun k => spec_l2Dist.l0 k (acc ++ [rowF n (rowD es n x n)]) ((x + 1 : Nat) : Int) n es) res) :
  Ev (fun k => spec_l2Dist.l1 k acc x [] 0 n es) res := by
 have H := down n (fun i => Ev (fun k => spec_l2Dist.l1 k acc x (List.replicate i (-1)) i n es) res) ?_ ?_ 0 (by omega)
 ·exact H
 ·show Ev _ _
  rw [Ev.iff_succ]
  have h2 : (0 : Int) ≤ x := by omega
  have h3 : (x : Int) < (n : Int) := by omega
  simp only [spec_l2Dist.l1, Int.lt_irrefl, ↓reduceIte, h2, List.length_replicate, h3, Int.toNat_natCast]
  have e : (List.replicate n (-1 : Int)).set x 0 = rowF n (rowD es n x 0) := by
   have e1 : List.replicate n (-1 : Int) = rowF n (fun _ => -1) := by
    apply List.ext_getElem
    ·simp [rowF]
    ·intro i h1 h2;simp [rowF]
   rw [e1, rowF_set hx]
   refine rowF_ext (fun y _ => ?_)
   unfold rowD
   simp only [ballM, lvD, Nat.testBit_two_pow]
   by_cases e : y = x
   ·subst e;simp
   ·rw [if_neg e, if_neg (by simp only [decide_eq_true_eq];omega)]
  rw [e]
  exact l2Dist_l2 hn hl hx ha hend
 ·intro i hi ih
  show Ev _ _
  rw [Ev.iff_succ]
  have h1 : (i : Int) < (n : Int) := by omega
  have h4 : i < 17592186044416 := by omega
  simp only [spec_l2Dist.l1, h1, ↓reduceIte, List.length_replicate, h4, w64_succ i (by omega)]
  rw [List.replicate_succ'] at ih
  exact ih

theorem l2Dist_ev (es : List S80) (n : Nat) (hn : n ≤ 8) (hl : es.length ≤ 9223372036854775807) : Ev (fun k => spec_l2Dist.f k n es) (distL es n) := by
 have H := down n (fun x => Ev (fun k => spec_l2Dist.l0 k ((List.range x).map (fun x => rowF n (rowD es n x n))) x n es) (distL es n)) ?_ ?_ 0 (by omega)
 ·exact H
 ·show Ev _ _
  rw [Ev.iff_succ]
  simp only [spec_l2Dist.l0, Int.lt_irrefl, ↓reduceIte, Ev.now_iff, distL]
 ·intro x hx ih
  show Ev _ _
  rw [Ev.iff_succ]
  have h1 : (x : Int) < (n : Int) := by omega
  simp only [spec_l2Dist.l0, h1, ↓reduceIte]
  refine l2Dist_l1 hn hl hx (by simp;omega) ?_
  rw [List.range_succ, List.map_append] at ih
  exact ih

theorem distL_rd {es : List S80} {n x : Nat} (h : x < n) : rd_L2 (distL es n) x = rowF n (rowD es n x n) := by simp [rd_L2, distL, h]

theorem l2Within_ev (es : List S80) (n x r : Nat) (hn : n ≤ 8) (hx : x < n) (hr : r < 1000) (hl : es.length ≤ 9223372036854775807) : Ev (fun k => spec_l2Within.f k n es x r) (bl n (ballM es n x r)) := by
 have h2 : (0 : Int) ≤ x := by omega
 have h3 : (x : Int) < ((distL es n).length : Int) := by simp [distL];omega
 unfold spec_l2Within.f
 rw [Ev.bind_iff (l2Dist_ev es n hn hl)]
 simp only [h2, h3, ↓reduceIte, distL_rd hx]
 have hin : ∀ y, y < n → ((0 ≤ rowD es n x n y ∧ rowD es n x n y ≤ (r : Int)) ↔ (ballM es n x r).testBit y = true) := fun y hy => by
  unfold rowD
  cases c : (ballM es n x n).testBit y
  ·simp only [Bool.false_eq_true, ↓reduceIte]
   constructor
   ·intro h;omega
   ·intro h
    exfalso
    by_cases e : r ≤ n
    ·have := ballM_le h (n - r)
     rw [show r + (n - r) = n by omega, c] at this;cases this
    ·rw [show r = n + (r - n) by omega, ballM_end hx, c] at h;cases h
  ·simp only [↓reduceIte]
   have := lvD_in (es := es) (r := r) n c
   constructor
   ·intro h
    rcases this.1 (by omega) with g | g
    ·have g2 := ballM_le c (r - n)
     rwa [show n + (r - n) = r by omega] at g2
    ·exact g
   ·intro h
    have := this.2 (.inr h)
    omega
 have H := down n (fun i => Ev (fun k => spec_l2Within.l0 k r (bl i (ballM es n x r)) (rowF n (rowD es n x n)) i n es) (bl n (ballM es n x r))) ?_ ?_ 0 (by omega)
 ·simpa [bl] using H
 ·show Ev _ _
  rw [Ev.iff_succ]
  simp [spec_l2Within.l0, Ev.now_iff]
 ·intro i hi ih
  show Ev _ _
  rw [Ev.iff_succ]
  have g1 : (i : Int) < (n : Int) := by omega
  have g2 : (0 : Int) ≤ i := by omega
  have g3 := bl_len_le i (ballM es n x r)
  have g4 : (bl i (ballM es n x r)).length < 17592186044416 := by omega
  have hii := hin i hi
  rw [bl_step hi] at ih
  simp only [spec_l2Within.l0, Ev.ite_iff, g1, g2, g4, ↓reduceIte, rowF_len, rowF_rd hi, l1In_eq, Option.bind_some, w64_succ i (by omega), decide_eq_true_eq, hii]
  cases c : (ballM es n x r).testBit i
  ·rw [c] at ih;simpa using ih
  ·rw [c] at ih;simpa using ih

theorem filter_or_le (p q : Nat → Bool) : ∀ l : List Nat, (l.filter fun x => p x || q x).length ≤ (l.filter p).length + (l.filter q).length
 | [] => by simp
 | a :: l => by
  have ih := filter_or_le p q l
  simp only [List.filter_cons]
  cases p a <;> cases q a <;> simp <;> omega

theorem bl_or_le (n a b : Nat) : (bl n (a ||| b)).length ≤ (bl n a).length + (bl n b).length := by
 rw [bl_len, bl_len, bl_len]
 have := filter_or_le (fun x => a.testBit x) (fun x => b.testBit x) (List.range n)
 simpa only [Nat.testBit_or] using this

/-- The first nodes of a burning, j of them left, that cover what is not covered yet. -/
def burnF (es : List S80) (n : Nat) : Nat → Nat → Option (List Nat)
 | 0, c => if c = 2 ^ n - 1 then some [] else none
 | j + 1, c => (List.range n).findSome? fun x => (burnF es n j (c ||| ballM es n x j)).map (x :: ·)

def intsN (l : List Nat) : List Int := l.map fun (x : Nat) => (x : Int)

def outF (b : List Int) : Option (List Nat) → List Int × Bool
 | some r => (b ++ intsN r, true)
 | none => ([], false)

theorem burnF_len {es : List S80} {n : Nat} : ∀ (j c : Nat) (r : List Nat), burnF es n j c = some r → r.length = j
 | 0, c, r, h => by
  unfold burnF at h
  split at h
  ·injection h with h;rw [← h];rfl
  ·cases h
 | j + 1, c, r, h => by
  unfold burnF at h
  obtain ⟨x, _, h2⟩ := List.exists_of_findSome?_eq_some h
  obtain ⟨r', h3, rfl⟩ := Option.map_eq_some_iff.1 h2
  rw [List.length_cons, burnF_len j _ r' h3]

/-- So many nodes the balls of a radius have at most. -/
def mostTo (es : List S80) (n r x : Nat) : Nat := (List.range x).foldl (fun m y => max m (bl n (ballM es n y r)).length) 0

theorem mostTo_succ (es : List S80) (n r x : Nat) : mostTo es n r (x + 1) = max (mostTo es n r x) (bl n (ballM es n x r)).length := by unfold mostTo; rw [List.range_succ, List.foldl_append]; rfl

theorem mostTo_le (es : List S80) (n r : Nat) : ∀ x, mostTo es n r x ≤ n
 | 0 => Nat.zero_le _
 | x + 1 => by
  rw [mostTo_succ]
  have := mostTo_le es n r x
  have := bl_len_le n (ballM es n x r)
  omega

theorem le_mostTo {es : List S80} {n r y : Nat} : ∀ x, y < x → (bl n (ballM es n y r)).length ≤ mostTo es n r x
 | 0, h => by omega
 | x + 1, h => by
  rw [mostTo_succ]
  by_cases e : y = x
  ·subst e;omega
  ·have := le_mostTo (es := es) (n := n) (r := r) x (by omega : y < x);omega

def roomN (es : List S80) (n : Nat) : Nat → Nat
 | 0 => 0
 | r + 1 => roomN es n r + mostTo es n r n

theorem roomN_le (es : List S80) (n : Nat) : ∀ r, roomN es n r ≤ r * n
 | 0 => by simp [roomN]
 | r + 1 => by
  have h1 := roomN_le es n r
  have h2 := mostTo_le es n r n
  rw [roomN, Nat.succ_mul];omega

/-- What lacks more nodes than the balls can have is never covered. -/
theorem burnF_room {es : List S80} {n : Nat} (hn : n ≤ 8) : ∀ (j c : Nat) (r : List Nat), c < 2 ^ n → burnF es n j c = some r → n ≤ (bl n c).length + roomN es n j
 | 0, c, r, hc, h => by
  unfold burnF at h
  split at h
  ·rename_i e
   have := (bl_len_full n hn c hc).2 e
   omega
  ·cases h
 | j + 1, c, r, hc, h => by
  unfold burnF at h
  obtain ⟨x, hx, h2⟩ := List.exists_of_findSome?_eq_some h
  obtain ⟨r', h3, rfl⟩ := Option.map_eq_some_iff.1 h2
  have hx := List.mem_range.1 hx
  have hB := ballM_lt (es := es) hx j
  have h4 := burnF_room hn j _ r' (Nat.or_lt_two_pow hc hB) h3
  have h5 := bl_or_le n c (ballM es n x j)
  have h6 := le_mostTo (es := es) (n := n) (r := j) n hx
  rw [roomN];omega

theorem miss_node {n c : Nat} (hn : n ≤ 8) (hc : c < 2 ^ n) (h : c ≠ 2 ^ n - 1) : ∃ y, y < n ∧ c.testBit y = false := by
 refine Classical.byContradiction fun hno => h ?_
 refine mask_ext hc (by have := Nat.two_pow_pos n;omega) (fun i hi => ?_)
 rw [Nat.testBit_two_pow_sub_one]
 cases e : c.testBit i
 ·exact absurd ⟨i, hi, e⟩ hno
 ·simp [hi]

theorem burnF_some {es : List S80} {n : Nat} (hn : n ≤ 8) : ∀ (j c : Nat), c < 2 ^ n → n ≤ (bl n c).length + j → (j = 0 ∨ 0 < n) → (burnF es n j c).isSome = true
 | 0, c, hc, h, _ => by
  unfold burnF
  have hl := bl_len_le n c
  rw [if_pos ((bl_len_full n hn c hc).1 (by omega))];rfl
 | j + 1, c, hc, h, h0 => by
  have hn0 : 0 < n := by omega
  unfold burnF
  rw [List.findSome?_isSome_iff]
  have key : ∃ y, y < n ∧ n ≤ (bl n (c ||| ballM es n y j)).length + j := by
   have hmono : ∀ y, (bl n c).length ≤ (bl n (c ||| ballM es n y j)).length := fun y => by
    rw [bl_len, bl_len];exact (cnt_mono n (fun i _ hi => by rw [Nat.testBit_or, hi];rfl)).1
   by_cases e : c = 2 ^ n - 1
   ·have := (bl_len_full n hn c hc).2 e
    have := hmono 0
    exact ⟨0, hn0, by omega⟩
   ·obtain ⟨y, hy, hb⟩ := miss_node hn hc e
    refine ⟨y, hy, ?_⟩
    have h1 := hmono y
    by_cases e2 : (bl n (c ||| ballM es n y j)).length ≤ (bl n c).length
    ·have h2 := sub_len hc (Nat.or_lt_two_pow hc (ballM_lt (es := es) hy j)) (fun i _ hi => by rw [Nat.testBit_or, hi];rfl) e2
     have h3 := congrArg (fun z => z.testBit y) h2
     simp only [Nat.testBit_or, hb, ballM_self (es := es) (n := n) (x := y) j] at h3
     cases h3
    ·omega
  obtain ⟨y, hy, hl⟩ := key
  refine ⟨y, List.mem_range.2 hy, ?_⟩
  rw [Option.isSome_map]
  exact burnF_some hn j _ (Nat.or_lt_two_pow hc (ballM_lt (es := es) hy j)) hl (.inr hn0)

def ballsL (es : List S80) (n : Nat) : List (List (List Int)) := (List.range n).map fun x => (List.range n).map fun r => bl n (ballM es n x r)

def roomL (es : List S80) (n m : Nat) : List Int := (List.range m).map fun r => ((roomN es n r : Nat) : Int)

theorem ballsL_rd {es : List S80} {n x : Nat} (hx : x < n) : rd_L3 (ballsL es n) (x : Int) = (List.range n).map fun r => bl n (ballM es n x r) := by simp [rd_L3, ballsL, hx]

theorem ballsL_row {es : List S80} {n x r : Nat} (hr : r < n) : rd_L2 ((List.range n).map fun r => bl n (ballM es n x r)) (r : Int) = bl n (ballM es n x r) := by simp [rd_L2, hr]

theorem roomL_rd {es : List S80} {n m r : Nat} (hr : r < m) : rd (roomL es n m) (r : Int) = (roomN es n r : Nat) := by simp [rd, roomL, hr]

theorem findSome_drop2 {β : Type} {N i : Nat} (h : i < N) (f : Nat → Option β) : ((List.range N).drop i).findSome? f = (f i).or (((List.range N).drop (i + 1)).findSome? f) := by
 rw [List.drop_eq_getElem_cons (by simpa using h), List.getElem_range, List.findSome?_cons]
 cases f i <;> rfl

theorem bl_zero' (n : Nat) : bl n 0 = [] := List.eq_nil_iff_forall_not_mem.2 (fun x hx => by obtain ⟨i, _, h2, _⟩ := mem_bl.1 hx; simp at h2)

end Go.Proofs.Ytaddgielnfhhpaa.QBestBurning
