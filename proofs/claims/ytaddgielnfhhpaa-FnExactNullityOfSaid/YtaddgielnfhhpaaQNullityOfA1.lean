import Derived.Test.YtaddgielnfhhpaaQNullityOf0
import Derived.Test.YtaddgielnfhhpaaQNullityOf1
import Derived.Test.YtaddgielnfhhpaaQNullityOf3
import Derived.Test.YtaddgielnfhhpaaQNullityOf6
import Derived.Test.YtaddgielnfhhpaaQNullityOf7
import Derived.Test.YtaddgielnfhhpaaQNullityOfA0
namespace Go.Proofs.Ytaddgielnfhhpaa.QNullityOf
open Go.RowKit Go.Proofs.YtaddgielnfhhpaaW.PrintWords Go.Proofs.YtaddgielnfhhpaaW.PrintLast Go.Proofs.YtaddgielnfhhpaaW.PrintMore
attribute [local go_sem] max2_int min2_int max_two min_two max_three min_three max_four min_four   -- for this text's walks alone
set_option linter.unusedVariables false
set_option linter.unusedSimpArgs false
theorem raise_ev : ∀ (f : Nat) (x : Int) (e : Nat) (acc : Int), e < 2 ^ f → e < 100000 → Ev (fun k => spec_l9Raise.l0 k x (e : Int) acc) (rz f x e acc)
 | 0, x, e, acc, h, h2 => by
  obtain rfl : e = 0 := by simpa using h
  rw [Ev.iff_succ]
  simp [spec_l9Raise.l0, Ev.now_iff, rz]
 | f + 1, x, e, acc, h, h2 => by
  rw [Ev.iff_succ]
  simp only [spec_l9Raise.l0, Ev.ite_iff, half_w e (by omega), odd_i, rz]
  have ih := fun acc => raise_ev f (Int.tmod (wrap64 (x * x)) 10007) (e / 2) acc (by rw [Nat.pow_succ] at h;omega) (by omega)
  by_cases h0 : e = 0
  ·subst h0;simp [Ev.now_iff]
  ·rw [if_pos (show (e : Int) > 0 by omega), if_neg h0]
   by_cases h1 : e % 2 = 1
   ·rw [if_pos h1, if_pos h1];exact ih _
   ·rw [if_neg h1, if_neg h1];exact ih _

theorem inverse_ev : ∀ (f : Nat) (x : Int) (e : Nat) (acc : Int), e < 2 ^ f → e < 100000 → Ev (fun k => impl_inverseOf.l0 k x acc (e : Int)) (rz f x e acc)
 | 0, x, e, acc, h, h2 => by
  obtain rfl : e = 0 := by simpa using h
  rw [Ev.iff_succ]
  simp [impl_inverseOf.l0, Ev.now_iff, rz]
 | f + 1, x, e, acc, h, h2 => by
  rw [Ev.iff_succ]
  simp only [impl_inverseOf.l0, Ev.ite_iff, half_w e (by omega), odd_i, rz]
  have ih := fun acc => inverse_ev f (Int.tmod (wrap64 (x * x)) 10007) (e / 2) acc (by rw [Nat.pow_succ] at h;omega) (by omega)
  by_cases h0 : e = 0
  ·subst h0;simp [Ev.now_iff]
  ·rw [if_pos (show (e : Int) > 0 by omega), if_neg h0]
   by_cases h1 : e % 2 = 1
   ·rw [if_pos h1, if_pos h1];exact ih _
   ·rw [if_neg h1, if_neg h1];exact ih _

def invE (a : Int) : Int := rz 14 a 10005 1

/-- The rows from one on: how far the first is that has a number in a column. -/
def pvE (c : Int) (L : List (List Int)) : Nat := L.findIdx (fun r => rd r c != 0)

theorem pvE_cons (c : Int) (x : List Int) (L : List (List Int)) : pvE c (x :: L) = if rd x c = 0 then pvE c L + 1 else 0 := by
 unfold pvE
 rw [List.findIdx_cons]
 by_cases h : rd x c = 0
 ·rw [h];simp
 ·have : (rd x c != 0) = true := by simpa using h
  rw [this, if_neg h];rfl

def rkE (n : Nat) : Nat → List (List Int) → Nat → Nat → Nat
 | 0, _, r, _ => r
 | d + 1, M, r, c => if r + pvE (c : Int) (M.drop r) = n then rkE n d M r (c + 1) else
   rkE n d (el1 n r (c : Int) (invE (rd (rd_L2 M ((r + pvE (c : Int) (M.drop r) : Nat) : Int)) (c : Int))) (swapM M (r : Int) ((r + pvE (c : Int) (M.drop r) : Nat) : Int)) (n - 1 - r)) (r + 1) (c + 1)

theorem rdL2_el {M : List (List Int)} {i : Nat} (h : i < M.length) : rd_L2 M (i : Int) = M[i] := by simp [rd_L2, h]

theorem pivot_ev {n : Nat} {M : List (List Int)} (h : Sq n M) (hn : n ≤ 8) (c : Nat) (hc : c < n) : ∀ r, r ≤ n → Ev (fun k => spec_l9Pivot.l0 k M (c : Int) (r : Int)) ((r + pvE (c : Int) (M.drop r) : Nat) : Int) := by
 intro r hr
 refine down n (fun r => Ev (fun k => spec_l9Pivot.l0 k M (c : Int) (r : Int)) ((r + pvE (c : Int) (M.drop r) : Nat) : Int)) ?_ ?_ r hr
 ·rw [Ev.iff_succ]
  have : ¬ ((n : Int) < (M.length : Int)) := by rw [h.1];omega
  simp only [spec_l9Pivot.l0, Ev.ite_iff, this, ↓reduceIte, Ev.now_iff]
  rw [List.drop_eq_nil_of_le (by rw [h.1];exact Nat.le_refl _)]
  simp [pvE]
 ·intro i hi ih
  rw [Ev.iff_succ]
  have h1 : (i : Int) < (M.length : Int) := by rw [h.1];omega
  have h2 : (0 : Int) ≤ (i : Int) := by omega
  have h3 : (0 : Int) ≤ (c : Int) := by omega
  have h4 : (c : Int) < ((rd_L2 M (i : Int)).length : Int) := by rw [h.2 i hi];omega
  have hi' : i < M.length := by rw [h.1];exact hi
  simp only [spec_l9Pivot.l0, Ev.ite_iff, h1, h2, h3, h4, ↓reduceIte, w64_succ i (by omega), Ev.now_iff]
  rw [List.drop_eq_getElem_cons hi', pvE_cons, ← rdL2_el hi']
  by_cases h5 : rd (rd_L2 M (i : Int)) (c : Int) = 0
  ·rw [if_pos h5, if_pos h5, show i + (pvE (c : Int) (M.drop (i + 1)) + 1) = i + 1 + pvE (c : Int) (M.drop (i + 1)) by omega]
   exact ih
  ·rw [if_neg h5, if_neg h5, Nat.add_zero]

theorem idxR_eq {n : Nat} (c : Nat) (hc : c < n) : ∀ (L : List (List Int)) (i : Nat), (∀ x ∈ L, x.length = n) → idxR (rankP (c : Int)) L (i : Int) = some (if pvE (c : Int) L = L.length then -1 else ((i + pvE (c : Int) L : Nat) : Int))
 | [], i, _ => by simp [idxR, pvE]
 | x :: L, i, h => by
  have hx : x.length = n := h x (by simp)
  have h1 : 0 ≤ (c : Int) ∧ (c : Int) < (x.length : Int) := by omega
  have ih := idxR_eq c hc L (i + 1) (fun y hy => h y (by simp [hy]))
  unfold idxR
  simp only [rankP]
  rw [if_pos h1, Option.bind_some]
  rw [pvE_cons, List.length_cons]
  by_cases h5 : rd x (c : Int) = 0
  ·have h6 : (rd x (c : Int) != 0) = false := by simpa using h5
   rw [h6, if_neg (by decide), if_pos h5, show (i : Int) + 1 = ((i + 1 : Nat) : Int) by omega, ih]
   by_cases hh : pvE (c : Int) L = L.length
   ·rw [if_pos hh, if_pos (by omega)]
   ·rw [if_neg hh, if_neg (by omega), show i + (pvE (c : Int) L + 1) = i + 1 + pvE (c : Int) L by omega]
  ·have h6 : (rd x (c : Int) != 0) = true := by simpa using h5
   rw [h6, if_pos rfl, if_neg h5, if_neg (by omega), Nat.add_zero]

theorem sq_mem {n : Nat} {M : List (List Int)} (h : Sq n M) (r : Nat) : ∀ x ∈ M.drop r, x.length = n := by
 intro x hx
 obtain ⟨i, hi, rfl⟩ := List.getElem_of_mem (List.mem_of_mem_drop hx)
 have := h.2 i (by rw [← h.1];exact hi)
 rw [rdL2_el hi] at this
 exact this

theorem pvE_le (c : Int) (L : List (List Int)) : pvE c L ≤ L.length := List.findIdx_le_length

theorem rank_l2 {n : Nat} (hn : n ≤ 8) {M : List (List Int)} (h : Sq n M) {r k : Nat} (hr : r < n) (hk : k < n) (c u t : Int) {R : Int} (hx : Ev (fun q => spec_l9Rank.l1 q (el2 (r : Int) (k : Int) t M n) (r : Int) c u ((k + 1 : Nat) : Int)) R) :
  Ev (fun q => spec_l9Rank.l2 q M (r : Int) c u (k : Int) t 0) R := by
 have H := down n (fun i => Ev (fun q => spec_l9Rank.l2 q (el2 (r : Int) (k : Int) t M i) (r : Int) c u (k : Int) t (i : Int)) R) ?_ ?_ 0 (by omega)
 ·exact H
 ·show Ev _ _
  rw [Ev.iff_succ]
  have : ¬ ((n : Int) < ((el2 (r : Int) (k : Int) t M n).length : Int)) := by rw [(el2_sq h _ _ hk n).1];omega
  simp only [spec_l9Rank.l2, Ev.ite_iff, this, ↓reduceIte, w64_succ k (by omega)]
  exact hx
 ·intro i hi ih
  show Ev _ _
  rw [Ev.iff_succ]
  have hs := el2_sq h (r : Int) t hk i
  simp only [spec_l9Rank.l2, Ev.ite_iff, hs.1, hs.2 k hk, hs.2 r hr, w64_succ i (by omega)]
  rw [if_pos (by omega), if_pos (by omega)]
  exact ih

theorem rank_l1 {n : Nat} (hn : n ≤ 8) {M : List (List Int)} (h : Sq n M) {r c : Nat} (hr : r < n) (hc : c < n) (u : Int) {R : Int} (hx : Ev (fun q => spec_l9Rank.l0 q (el1 n r (c : Int) u M (n - 1 - r)) ((r + 1 : Nat) : Int) ((c + 1 : Nat) : Int)) R) :
  Ev (fun q => spec_l9Rank.l1 q M (r : Int) (c : Int) u ((r + 1 : Nat) : Int)) R := by
 have H := down (n - 1 - r) (fun i => Ev (fun q => spec_l9Rank.l1 q (el1 n r (c : Int) u M i) (r : Int) (c : Int) u ((r + 1 + i : Nat) : Int)) R) ?_ ?_ 0 (by omega)
 ·exact H
 ·show Ev _ _
  rw [Ev.iff_succ]
  have hs := el1_sq h (c : Int) u (n - 1 - r) (show r + 1 + (n - 1 - r) ≤ n by omega)
  have : ¬ (((r + 1 + (n - 1 - r) : Nat) : Int) < ((el1 n r (c : Int) u M (n - 1 - r)).length : Int)) := by rw [hs.1];omega
  simp only [spec_l9Rank.l1, Ev.ite_iff, this, ↓reduceIte, w64_succ r (by omega), w64_succ c (by omega)]
  exact hx
 ·intro i hi ih
  show Ev _ _
  rw [Ev.iff_succ]
  have hs := el1_sq h (c : Int) u i (show r + 1 + i ≤ n by omega)
  simp only [spec_l9Rank.l1, Ev.ite_iff, hs.1, hs.2 (r + 1 + i) (by omega)]
  rw [if_pos (by omega), if_pos (by omega)]
  exact rank_l2 hn hs hr (by omega) _ _ _ ih

theorem rank_ev {n : Nat} (hn : n ≤ 8) : ∀ (d : Nat) (M : List (List Int)) (r c : Nat), Sq n M → c + d = n → r ≤ c → Ev (fun q => spec_l9Rank.l0 q M (r : Int) (c : Int)) ((rkE n d M r c : Nat) : Int)
 | 0, M, r, c, h, hd, hr => by
  rw [Ev.iff_succ]
  have : ¬ ((c : Int) < (M.length : Int)) := by rw [h.1];omega
  simp only [spec_l9Rank.l0, Ev.ite_iff, this, ↓reduceIte, Ev.now_iff, rkE]
 | d + 1, M, r, c, h, hd, hr => by
  rw [Ev.iff_succ]
  have h1 : (c : Int) < (M.length : Int) := by rw [h.1];omega
  have hp := pvE_le (c : Int) (M.drop r)
  rw [List.length_drop, h.1] at hp
  simp only [spec_l9Rank.l0, Ev.ite_iff, h1, ↓reduceIte]
  rw [Ev.bind_iff (show Ev (fun k => spec_l9Pivot.f k M (r : Int) (c : Int)) _ from pivot_ev h hn c (by omega) r (by omega)), rkE]
  generalize hq : r + pvE (c : Int) (M.drop r) = q at hp ⊢
  simp only [Ev.ite_iff, h.1, w64_succ c (by omega)]
  by_cases hz : q = n
  ·rw [if_pos (by omega), if_pos hz]
   exact rank_ev hn d M r (c + 1) h (by omega) (by omega)
  ·have hql : q < n := by omega
   rw [if_neg (by omega), if_neg hz, h.2 q hql, h.2 r (by omega), if_pos (by omega)]
   rw [Ev.bind_iff (show Ev (fun k => spec_l9Raise.f k (rd (rd_L2 M (q : Int)) (c : Int)) 10005) (invE (rd (rd_L2 M (q : Int)) (c : Int))) from raise_ev 14 _ 10005 1 (by decide) (by decide))]
   rw [w64_succ r (by omega), swapM_comm]
   exact rank_l1 hn (sq_swap h (by omega) hql) (by omega) (by omega) _ (rank_ev hn d _ (r + 1) (c + 1) (el1_sq (sq_swap h (by omega) hql) _ _ _ (by omega)) (by omega) (by omega))

theorem rankB_b2 {n : Nat} (hn : n ≤ 8) {M : List (List Int)} (h : Sq n M) {r j : Nat} (hk : r + 1 + j < n) (c u t : Int) {R : Int} (hx : Ev (fun q => rankB.b1 q (el2 (r : Int) ((r + 1 + j : Nat) : Int) t M n) (n : Int) (r : Int) c u ((j + 1 : Nat) : Int)) R) :
  Ev (fun q => rankB.b2 q M (n : Int) (r : Int) c u (j : Int) t (n : Int) 0) R := by
 have ek : ((r + 1 : Nat) : Int) + (j : Int) = ((r + 1 + j : Nat) : Int) := by omega
 have H := down n (fun i => Ev (fun q => rankB.b2 q (el2 (r : Int) ((r + 1 + j : Nat) : Int) t M i) (n : Int) (r : Int) c u (j : Int) t (n : Int) (i : Int)) R) ?_ ?_ 0 (by omega)
 ·exact H
 ·show Ev _ _
  rw [Ev.iff_succ]
  simp only [rankB.b2, Ev.ite_iff, Int.lt_irrefl, ↓reduceIte, w64_succ j (by omega)]
  exact hx
 ·intro i hi ih
  show Ev _ _
  rw [Ev.iff_succ]
  have hs := el2_sq h (r : Int) t hk i
  simp only [rankB.b2, Ev.ite_iff, w64_succ r (by omega), ek, hs.1, hs.2 _ hk, hs.2 r (by omega), w64_succ i (by omega)]
  rw [if_pos (by omega), if_pos (by omega)]
  exact ih

theorem rankB_b1 {n : Nat} (hn : n ≤ 8) {M : List (List Int)} (h : Sq n M) {r c : Nat} (hr : r < n) (hc : c < n) (u : Int) {R : Int} (hx : Ev (fun q => rankB.b0 q (el1 n r (c : Int) u M (n - 1 - r)) (n : Int) ((r + 1 : Nat) : Int) ((c + 1 : Nat) : Int)) R) :
  Ev (fun q => rankB.b1 q M (n : Int) (r : Int) (c : Int) u 0) R := by
 have H := down (n - 1 - r) (fun i => Ev (fun q => rankB.b1 q (el1 n r (c : Int) u M i) (n : Int) (r : Int) (c : Int) u (i : Int)) R) ?_ ?_ 0 (by omega)
 ·exact H
 ·show Ev _ _
  rw [Ev.iff_succ]
  have hs := el1_sq h (c : Int) u (n - 1 - r) (show r + 1 + (n - 1 - r) ≤ n by omega)
  simp only [rankB.b1, Ev.ite_iff, w64_succ r (by omega), w64_succ c (by omega), hs.1]
  rw [if_neg (by omega)]
  exact hx
 ·intro i hi ih
  show Ev _ _
  rw [Ev.iff_succ]
  have ek : ((r + 1 : Nat) : Int) + (i : Int) = ((r + 1 + i : Nat) : Int) := by omega
  have hs := el1_sq h (c : Int) u i (show r + 1 + i ≤ n by omega)
  simp only [rankB.b1, Ev.ite_iff, w64_succ r (by omega), ek, hs.1, hs.2 (r + 1 + i) (by omega)]
  rw [if_pos (by omega), if_pos (by omega)]
  exact rankB_b2 hn hs (by omega) _ _ _ ih

theorem rankB_ev {n : Nat} (hn : n ≤ 8) : ∀ (d : Nat) (M : List (List Int)) (r c : Nat), Sq n M → c + d = n → r ≤ c → Ev (fun q => rankB.b0 q M (n : Int) (r : Int) (c : Int)) ((rkE n d M r c : Nat) : Int)
 | 0, M, r, c, h, hd, hr => by
  rw [Ev.iff_succ]
  have : ¬ ((c : Int) < (n : Int)) := by omega
  simp only [rankB.b0, Ev.ite_iff, this, ↓reduceIte, Ev.now_iff, rkE]
 | d + 1, M, r, c, h, hd, hr => by
  rw [Ev.iff_succ]
  have hp := pvE_le (c : Int) (M.drop r)
  rw [List.length_drop, h.1] at hp
  have hi := idxR_eq (n := n) c (by omega) (M.drop r) 0 (sq_mem h r)
  rw [List.length_drop, h.1, Nat.zero_add] at hi
  have hi2 : idxR (rankP (c : Int)) (M.drop r) 0 = _ := hi
  simp only [rankB.b0, Ev.ite_iff, h.1, Int.toNat_natCast]
  rw [if_pos (by omega), if_pos (by omega), hi2, rkE]
  simp only [Option.bind_some, Ev.ite_iff]
  generalize hq : pvE (c : Int) (M.drop r) = q at hp ⊢
  by_cases hz : q = n - r
  ·rw [if_pos hz, if_pos (by decide), if_pos (by omega), w64_succ c (by omega)]
   exact rankB_ev hn d M r (c + 1) h (by omega) (by omega)
  ·have hql : r + q < n := by omega
   have ew : wrap64 ((r : Int) + (q : Int)) = ((r + q : Nat) : Int) := by rw [w64] <;> omega
   rw [if_neg hz, if_neg (show ¬ ((q : Nat) : Int) < 0 by omega), if_neg (show ¬ r + q = n by omega), ew, h.2 (r + q) hql, h.2 r (by omega), if_pos (by omega)]
   rw [Ev.bind_iff (show Ev (fun k => impl_inverseOf.f k (rd (rd_L2 M ((r + q : Nat) : Int)) (c : Int))) (invE (rd (rd_L2 M ((r + q : Nat) : Int)) (c : Int))) from inverse_ev 14 _ 10005 1 (by decide) (by decide))]
   rw [Ev.ite_iff, w64_succ r (by omega), if_pos (by omega)]
   exact rankB_b1 hn (sq_swap h (by omega) hql) (by omega) (by omega) _ (rankB_ev hn d _ (r + 1) (c + 1) (el1_sq (sq_swap h (by omega) hql) _ _ _ (by omega)) (by omega) (by omega))

/-- A row of the matrix ahead of its diagonal; with it. -/
def rwE (es : List S80) (n x : Nat) : List Int := (List.range n).map (fun y : Nat => if near es (x : Int) (y : Int) then 1 else 0)

def mxE (es : List S80) (n : Nat) (l : List Int) : List (List Int) := (List.range n).map (fun x : Nat => (rwE es n x).set x (rd l (x : Int)))

theorem rwE_len (es : List S80) (n x : Nat) : (rwE es n x).length = n := by simp [rwE]

theorem mxE_sq (es : List S80) (n : Nat) (l : List Int) : Sq n (mxE es n l) := by
 refine ⟨by simp [mxE], fun i hi => ?_⟩
 simp [rd_L2, mxE, hi, rwE_len]

def nullityR (n : Int) (es : List S80) (l : List Int) : Int × Bool :=
 if okG n es = true ∧ (l.length : Int) = n ∧ allIn 0 10006 l = true then (wrap64 (n - ((rkE n.toNat n.toNat (mxE es n.toNat l) 0 0 : Nat) : Int)), true) else (0, false)

theorem rwE_at {es : List S80} {n x i : Nat} (h : i < (rwE es n x).length) : (rwE es n x)[i] = if near es (x : Int) (i : Int) then 1 else 0 := by simp [rwE]

theorem mxE_at {es : List S80} {n x : Nat} {l : List Int} (h : x < (mxE es n l).length) : (mxE es n l)[x] = (rwE es n x).set x (rd l (x : Int)) := by simp [mxE]

theorem mxE_len (es : List S80) (n : Nat) (l : List Int) : (mxE es n l).length = n := by simp [mxE]

theorem set_fill2 {α : Type} {l : List α} {z : α} {n i : Nat} (hl : l.length = n) (h : i < l.length) : (l.take i ++ List.replicate (n - i) z).set i l[i] = l.take (i + 1) ++ List.replicate (n - (i + 1)) z := by
 subst hl
 exact set_fill l z i h

theorem matrix_l1 {n : Nat} {es : List S80} {l : List Int} (hn : n ≤ 8) (he : es.length ≤ 9223372036854775807) (hl : l.length = n) {M : List (List Int)} (hM : M.length ≤ 8) {x : Nat} (hx : x < n) {R : List (List Int)}
  (h : Ev (fun q => spec_l9Matrix.l0 q l (M ++ [(rwE es n x).set x (rd l (x : Int))]) ((x + 1 : Nat) : Int) (n : Int) es) R) : Ev (fun q => spec_l9Matrix.l1 q l M (x : Int) (List.replicate n 0) 0 (n : Int) es) R := by
 have hL := rwE_len es n x
 have H := down n (fun i => Ev (fun q => spec_l9Matrix.l1 q l M (x : Int) ((rwE es n x).take i ++ List.replicate (n - i) 0) (i : Int) (n : Int) es) R) ?_ ?_ 0 (by omega)
 ·simpa using H
 ·show Ev _ _
  rw [Ev.iff_succ, List.take_of_length_le (by omega), Nat.sub_self, List.replicate_zero, List.append_nil]
  have h1 : (x : Int) < (l.length : Int) := by omega
  have h2 : (0 : Int) ≤ (x : Int) := by omega
  have h3 : (x : Int) < ((rwE es n x).length : Int) := by omega
  have h4 : M.length < 5864062014805 := by omega
  simp only [spec_l9Matrix.l1, Ev.ite_iff, Int.lt_irrefl, h1, h2, h3, h4, ↓reduceIte, w64_succ x (by omega), Int.toNat_natCast]
  exact h
 ·intro i hi ih
  show Ev _ _
  rw [Ev.iff_succ]
  have h1 : (i : Int) < (n : Int) := by omega
  have h2 : (0 : Int) ≤ (i : Int) := by omega
  have h3 : (i : Int) < (((rwE es n x).take i ++ List.replicate (n - i) (0 : Int)).length : Int) := by rw [List.length_append, List.length_take, List.length_replicate];omega
  have ha := rwE_at (es := es) (n := n) (x := x) (i := i) (by omega)
  simp only [spec_l9Matrix.l1, Ev.ite_iff, h1, h2, h3, ↓reduceIte, Ev.bind_iff (l2Near_ev (n : Int) es (x : Int) (i : Int) he), w64_succ i (by omega), Int.toNat_natCast]
  by_cases hb : near es (x : Int) (i : Int) = true
  ·rw [if_pos hb]
   rw [if_pos hb] at ha
   have e := set_fill (rwE es n x) (0 : Int) i (by omega)
   rw [ha, hL] at e
   rw [e];exact ih
  ·rw [if_neg hb]
   rw [if_neg hb] at ha
   rw [show n - i = (n - (i + 1)) + 1 by omega, List.replicate_succ]
   rw [List.take_succ_eq_append_getElem (by omega), ha, List.append_assoc] at ih
   exact ih

theorem matrix_ev {n : Nat} {es : List S80} {l : List Int} (hn : n ≤ 8) (he : es.length ≤ 9223372036854775807) (hl : l.length = n) : Ev (fun q => spec_l9Matrix.f q (n : Int) es l) (mxE es n l) := by
 have hL := mxE_len es n l
 have H := down n (fun x => Ev (fun q => spec_l9Matrix.l0 q l ((mxE es n l).take x) (x : Int) (n : Int) es) (mxE es n l)) ?_ ?_ 0 (by omega)
 ·exact H
 ·show Ev _ _
  rw [Ev.iff_succ, List.take_of_length_le (by omega)]
  simp [spec_l9Matrix.l0, Ev.now_iff]
 ·intro x hx ih
  show Ev _ _
  rw [Ev.iff_succ]
  have h1 : (x : Int) < (n : Int) := by omega
  have h2 : (0 : Int) ≤ (n : Int) := by omega
  have h3 : n ≤ 35184372088832 := by omega
  rw [List.take_succ_eq_append_getElem (by omega), mxE_at] at ih
  simp only [spec_l9Matrix.l0, Ev.ite_iff, h1, h2, ↓reduceIte, Int.toNat_natCast, h3]
  exact matrix_l1 hn he hl (by rw [List.length_take];omega) hx ih

theorem rankWith_l1 {n : Nat} {es : List S80} {l : List Int} (hn : n ≤ 8) (hl : l.length = n) {P : List (List Int)} (hP : P.length = n) {x : Nat} (hx : x < n) {R : Int}
  (h : Ev (fun q => impl_net_rankWith.l0 q l (n : Int) (P.set x ((rwE es n x).set x (rd l (x : Int)))) (n : Int) ((x + 1 : Nat) : Int) (nets es n)) R) : Ev (fun q => impl_net_rankWith.l1 q l (n : Int) (P.set x (List.replicate n 0)) (x : Int) (n : Int) (x : Int) (n : Int) 0 (nets es n)) R := by
 have hL := rwE_len es n x
 have hr : ∀ r : List Int, rd_L2 (P.set x r) (x : Int) = r := fun r => by rw [rdL2_set (by omega), if_pos rfl]
 have H := down n (fun i => Ev (fun q => impl_net_rankWith.l1 q l (n : Int) (P.set x ((rwE es n x).take i ++ List.replicate (n - i) 0)) (x : Int) (n : Int) (x : Int) (n : Int) (i : Int) (nets es n)) R) ?_ ?_ 0 (by omega)
 ·simpa using H
 ·show Ev _ _
  rw [Ev.iff_succ, List.take_of_length_le (by omega), Nat.sub_self, List.replicate_zero, List.append_nil]
  have h1 : (x : Int) < (l.length : Int) := by omega
  have h2 : (0 : Int) ≤ (x : Int) := by omega
  have h3 : (x : Int) < ((rwE es n x).length : Int) := by omega
  have h4 : (x : Int) < ((P.set x (rwE es n x)).length : Int) := by rw [List.length_set];omega
  simp only [impl_net_rankWith.l1, Ev.ite_iff, Int.lt_irrefl, h1, h2, h3, h4, ↓reduceIte, w64_succ x (by omega), Int.toNat_natCast, hr, List.set_set]
  exact h
 ·intro i hi ih
  show Ev _ _
  rw [Ev.iff_succ]
  have h1 : (i : Int) < (n : Int) := by omega
  have h2 : (0 : Int) ≤ (i : Int) := by omega
  have h5 : (0 : Int) ≤ (x : Int) := by omega
  have h3 : (i : Int) < (((rwE es n x).take i ++ List.replicate (n - i) (0 : Int)).length : Int) := by rw [List.length_append, List.length_take, List.length_replicate];omega
  have h4 : (x : Int) < ((P.set x ((rwE es n x).take i ++ List.replicate (n - i) (0 : Int))).length : Int) := by rw [List.length_set];omega
  have h6 : (x : Int) < ((nets es n).length : Int) := by rw [nets_len];omega
  have ha := rwE_at (es := es) (n := n) (x := x) (i := i) (by omega)
  have hbit : Go.bits .and .i64 (shr .i64 (rd (nets es n) (x : Int)) (i : Int)) 1 = (rwE es n x)[i]'(by omega) := by
   rw [nets_rd hx, shr_bit _ _ (lt62 hn (nb_lt es n x)) (by omega), nb_bit, ha]
   simp [hi]
  have e := set_fill2 (z := (0 : Int)) (i := i) hL (by omega)
  simp only [impl_net_rankWith.l1, Ev.ite_iff, h1, h2, h3, h4, h5, h6, ↓reduceIte, hr, w64_succ i (by omega), Int.toNat_natCast, hbit, e, List.set_set]
  exact ih

end Go.Proofs.Ytaddgielnfhhpaa.QNullityOf
