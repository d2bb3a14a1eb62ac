import Derived.Test.YtaddgielnfhhpaaQNullityOf0
import Derived.Test.YtaddgielnfhhpaaQNullityOf6
namespace Go.Proofs.Ytaddgielnfhhpaa.QNullityOf
open Go.RowKit Go.Proofs.YtaddgielnfhhpaaW.PrintWords Go.Proofs.YtaddgielnfhhpaaW.PrintLast Go.Proofs.YtaddgielnfhhpaaW.PrintMore
attribute [local go_sem] max2_int min2_int max_two min_two max_three min_three max_four min_four   -- for this text's walks alone
set_option linter.unusedVariables false
set_option linter.unusedSimpArgs false
/-! ### impl_net_rankWith: function 41 -/
/-! #### slices.IndexFunc and ContainsFunc at [][]int, a predicate that may lay blocks, told up to the first that is wanted: by hand -/
def idxR (q : List Int → Option Bool) : List (List Int) → Int → Option Int
 | [], _ => some (-1)
 | x :: l, i => (q x).bind fun b => if b = true then some i else idxR q l (i + 1)
theorem idxR_mono {q q' : List Int → Option Bool} (h : ∀ x, LeO (q x) (q' x)) : ∀ (l : List (List Int)) (i : Int), LeO (idxR q l i) (idxR q' l i)
 | [], _ => LeO.refl _
 | x :: l, i => by
  unfold idxR
  refine LeO.bind (h x) (fun b => ?_)
  refine LeO.ite (LeO.refl _) (idxR_mono h l _)
theorem idxR_use {q : List Int → Option Bool} {l : List (List Int)} {kk : Nat} {r : Int} (hi : kk < l.length) (h : idxR q (l.drop kk) (kk : Int) = some r) :
  ∃ b, q (rd_L2 l (kk : Int)) = some b ∧ ((b = true ∧ r = (kk : Int)) ∨ (b = false ∧ idxR q (l.drop (kk + 1)) ((kk + 1 : Nat) : Int) = some r)) := by
 have e : rd_L2 l (kk : Int) = l[kk] := by simp [rd_L2, hi]
 rw [List.drop_eq_getElem_cons hi] at h
 unfold idxR at h
 obtain ⟨b, hb, h⟩ := Option.bind_eq_some_iff.1 h
 refine ⟨b, by rw [e];exact hb, ?_⟩
 cases b with
 | true => rw [if_pos rfl] at h;exact .inl ⟨rfl, (Option.some.inj h).symm⟩
 | false => rw [if_neg (by decide)] at h;exact .inr ⟨rfl, by rw [← h];rfl⟩
set_option maxHeartbeats 1600000 in
set_option maxRecDepth 100000 in
theorem indexRows_calls (g : Nat) (lb : Array Value) (eg : ∀ args w, (callFunc g args).run Try.prog w = .ok (.enter g args) w) (q : List Int → Option Bool) (A : Option Addr) (c : Nat) (l : List (List Int)) (w : World) (hr : Kd.C (Kd.slice 3 (Kd.int .i64)) w A l.length l) (r : Int) (h : idxR q l 0 = some r)
  (hp : ∀ x A' c' b W, q x = some b → Below w.heap.size w W → Kd.C (Kd.int .i64) W A' x.length x → x.length ≤ c' → Calls Try.prog g (#[.slice A' x.length c'] ++ lb) W fun e w' => e = .returned (.bool b) ∧ Below W.heap.size W w') :
  Calls Try.prog 68 #[.slice A l.length c, .func (.func g) #[] lb] w fun e w' => e = .returned (.int .i64 r) ∧ Below w.heap.size w w' := by
 have HR := Aside0.mk hr
 have HP := Aside0.mk hp
 have hL := hr.2.1
 have HI := Aside0.mk (show idxR q (l.drop 0) ((0 : Nat) : Int) = some r from h)
 clear hr hp h
 go_enter Try.func68, Try.ntmps68
 go_wp2
 go_loopg [5, 8] l.length (fun gg _ s8 wr => ∃ kk : Nat, kk ≤ l.length ∧ l.length - kk ≤ gg ∧ s8 = .int .i64 (kk : Int) ∧ Aside0 (Below w.heap.size w wr) ∧ Aside0 (idxR q (l.drop kk) (kk : Int) = some r))
 case atStart => exact ⟨0, Nat.zero_le _, by omega, rfl, ⟨Below.refl _ _⟩, HI⟩
 case round =>
  clear HI
  obtain ⟨kk, hkk, hg, rfl, HB, NY⟩ := hrel
  by_cases hlt : kk < l.length
  ·have hltz : (kk : Int) < (l.length : Int) := by omega
   have hk0 : (0 : Int) ≤ (kk : Int) := by omega
   obtain ⟨ad, A', c', rfl, hcell, hl', hi'⟩ := at_L2 (Kd.C_below HR.out HB.out) (kk : Int) hk0 hltz
   rw [Int.toNat_natCast] at hcell
   obtain ⟨b, hq, hcs⟩ := idxR_use hlt NY.out
   have hcall := HP.out (rd_L2 l (kk : Int)) A' c' b wr hq HB.out hi' hl'
   clear hq NY hl' hi'
   have HC := Aside0.mk hcs
   clear hcs
   generalize hx : rd_L2 l (kk : Int) = x at hcell hcall
   clear hx
   cases b with
   | true =>
    obtain rfl : r = (kk : Int) := by rcases HC.out with h | h;exact h.2;exact absurd h.1 (by decide)
    clear HC
    go_wp2_with (go_at_fn g;refine hcall.mono ?_;rintro e w' ⟨rfl, hb⟩)
    go_ret
    exact ⟨rfl, below_step HB.out hb⟩
   | false =>
    have NY := Aside0.mk (show idxR q (l.drop (kk + 1)) ((kk + 1 : Nat) : Int) = some r by rcases HC.out with h | h;exact absurd h.1 (by decide);exact h.2)
    clear HC
    go_wp2_with (go_at_fn g;refine hcall.mono ?_;rintro e w' ⟨rfl, hb⟩)
    go_roundg (l.length - (kk + 1))
    case measure => omega
    case rel => exact ⟨kk + 1, by omega, by omega, by first | rfl | go_num, ⟨below_step HB.out hb⟩, NY⟩
  ·have hltz : ¬ (kk : Int) < (l.length : Int) := by omega
   obtain rfl : kk = l.length := by omega
   obtain rfl : r = -1 := by have h := NY.out;rw [List.drop_length] at h;exact (Option.some.inj h).symm
   go_wp2
   go_ret
   exact ⟨rfl, HB.out⟩

/-! #### the second half of rankWith: by hand -/
def rankP (c : Int) (row : List Int) : Option Bool := if 0 ≤ c ∧ c < (row.length : Int) then some (rd row c != 0) else none
mutual
def rankB.b0 : Nat → List (List Int) → Int → Int → Int → Option Int
 | 0, _, _, _, _ => none
 | k + 1, M, n, x9, x62 => if x62 < n then (if 0 ≤ x9 ∧ x9 < (M.length : Int) then ((idxR (rankP x62) (M.drop x9.toNat) 0).bind fun t => if t < 0 then rankB.b0 k M n x9 (wrap64 (x62 + 1)) else (if ((0 ≤ x9 ∧ x9 < (M.length : Int)) ∧ (0 ≤ wrap64 (x9 + t) ∧ wrap64 (x9 + t) < (M.length : Int))) ∧ ((0 ≤ x62 ∧ x62 < ((rd_L2 M (wrap64 (x9 + t))).length : Int)) ∧ 0 < (rd_L2 M x9).length) then (impl_inverseOf.f k (rd (rd_L2 M (wrap64 (x9 + t))) x62)).bind fun u => (if 0 ≤ wrap64 (x9 + 1) ∧ wrap64 (x9 + 1) ≤ (M.length : Int) then rankB.b1 k (swapM M x9 (wrap64 (x9 + t))) n x9 x62 u 0 else none) else none)) else none) else some x9
def rankB.b1 : Nat → List (List Int) → Int → Int → Int → Int → Int → Option Int
 | 0, _, _, _, _, _, _ => none
 | k + 1, M, n, x9, x62, x12, x103 => if x103 < (M.length : Int) - wrap64 (x9 + 1) then (if 0 ≤ x103 ∧ (0 ≤ x62 ∧ x62 < ((rd_L2 M (wrap64 (x9 + 1) + x103)).length : Int)) then rankB.b2 k M n x9 x62 x12 x103 (Int.tmod (wrap64 (rd (rd_L2 M (wrap64 (x9 + 1) + x103)) x62 * x12)) 10007) ((rd_L2 M (wrap64 (x9 + 1) + x103)).length : Int) 0 else none) else rankB.b0 k M n (wrap64 (x9 + 1)) (wrap64 (x62 + 1))
def rankB.b2 : Nat → List (List Int) → Int → Int → Int → Int → Int → Int → Int → Int → Option Int
 | 0, _, _, _, _, _, _, _, _, _ => none
 | k + 1, M, n, x9, x62, x12, x103, x15, x115, x116 => if x116 < x115 then (if ((0 ≤ wrap64 (x9 + 1) + x103 ∧ wrap64 (x9 + 1) + x103 < (M.length : Int)) ∧ (0 ≤ x9 ∧ x9 < (M.length : Int))) ∧ (0 ≤ x116 ∧ (x116 < ((rd_L2 M (wrap64 (x9 + 1) + x103)).length : Int) ∧ x116 < ((rd_L2 M x9).length : Int))) then rankB.b2 k (putM M (wrap64 (x9 + 1) + x103) x116 (fieldOf (rd (rd_L2 M (wrap64 (x9 + 1) + x103)) x116) x15 (rd (rd_L2 M x9) x116))) n x9 x62 x12 x103 x15 x115 (wrap64 (x116 + 1)) else none) else rankB.b1 k M n x9 x62 x12 (wrap64 (x103 + 1))
end
theorem rankB.mono_l : ∀ k, (∀ y0 y1 y2 y3, LeO (rankB.b0 k y0 y1 y2 y3) (rankB.b0 (k + 1) y0 y1 y2 y3)) ∧ (∀ y0 y1 y2 y3 y4 y5, LeO (rankB.b1 k y0 y1 y2 y3 y4 y5) (rankB.b1 (k + 1) y0 y1 y2 y3 y4 y5)) ∧ (∀ y0 y1 y2 y3 y4 y5 y6 y7 y8, LeO (rankB.b2 k y0 y1 y2 y3 y4 y5 y6 y7 y8) (rankB.b2 (k + 1) y0 y1 y2 y3 y4 y5 y6 y7 y8))
 | 0 => ⟨fun _ _ _ _ r h => by simp [rankB.b0] at h, fun _ _ _ _ _ _ r h => by simp [rankB.b1] at h, fun _ _ _ _ _ _ _ _ _ r h => by simp [rankB.b2] at h⟩
 | k + 1 => by
  obtain ⟨ih0, ih1, ih2⟩ := rankB.mono_l k
  refine ⟨?_, ?_, ?_⟩
  ·intro y0 y1 y2 y3
   unfold rankB.b0
   repeat' first
   | exact ih0 _ _ _ _
   | exact ih1 _ _ _ _ _ _
   | exact impl_inverseOf.mono _ _
   | exact LeO.refl _
   | exact LeO.none _
   | refine LeO.ite ?_ ?_
   | refine LeO.bind ?_ (fun _ => ?_)
  ·intro y0 y1 y2 y3 y4 y5
   unfold rankB.b1
   repeat' first
   | exact ih0 _ _ _ _
   | exact ih2 _ _ _ _ _ _ _ _ _
   | exact LeO.none _
   | refine LeO.ite ?_ ?_
  ·intro y0 y1 y2 y3 y4 y5 y6 y7 y8
   unfold rankB.b2
   repeat' first
   | exact ih1 _ _ _ _ _ _
   | exact ih2 _ _ _ _ _ _ _ _ _
   | exact LeO.none _
   | refine LeO.ite ?_ ?_
theorem rankB.mono0 : ∀ a0 a1 a2 a3 k, LeO (rankB.b0 k a0 a1 a2 a3) (rankB.b0 (k + 1) a0 a1 a2 a3) := fun a0 a1 a2 a3 k => (rankB.mono_l k).1 a0 a1 a2 a3
theorem rankP_fn (gC : Nat) (A : Option Addr) (cp : Nat) (row : List Int) (c : Int) (b : Bool) (W : World) (hC : W.cell? ⟨gC, 0, none⟩ = some (.int .i64 c)) (hR : Kd.C (Kd.int .i64) W A row.length row) (hq : rankP c row = some b) :
  Calls Try.prog 69 (#[.slice A row.length cp] ++ #[.pointer (some ⟨gC, 0, none⟩)]) W fun e w' => e = .returned (.bool b) ∧ Below W.heap.size W w' := by
 unfold rankP at hq
 by_cases h : 0 ≤ c ∧ c < (row.length : Int)
 ·rw [if_pos h] at hq
  obtain ⟨ad, rfl, hx⟩ := Kd.at_int hR c h.1 h.2
  have hb := Option.some.inj hq
  have p0 : (0 ≤ c) = True := eq_true h.1
  have p1 : (c < (row.length : Int)) = True := eq_true h.2
  clear hq hR h
  generalize rd row c = y at hx hb
  subst hb
  show Calls Try.prog 69 #[.slice (some ad) row.length cp, .pointer (some ⟨gC, 0, none⟩)] W _
  go_enter Try.func69, Try.ntmps69
  go_wp2
  go_ret
  exact ⟨rfl, Below.refl _ _⟩
 ·rw [if_neg h] at hq;cases hq
def rankB.T20 : Bool × List (List Nat × List Nat) := (true, [([], []), ([], []), ([], []), ([], []), ([], []), ([3, 4], [3, 4]), ([], []), ([], []), ([], []), ([7, 8], [7, 8]), ([6, 9], [6, 9]), ([10], [10]), ([], []), ([], []), ([12, 13], [12, 13]), ([14], [14]), ([0, 1, 0, 1, 6, 7, 8, 9, 10, 11, 15], [0, 1]), ([16, 11, 0, 1, 6, 7, 8, 9, 10, 11, 15], [11, 16]), ([2, 5, 0, 1, 2, 3, 4, 5, 6, 7, 8, 9, 10, 11, 12, 13, 14, 15, 16, 17], [2, 5]), ([18, 15, 17, 0, 1, 2, 3, 4, 5, 6, 7, 8, 9, 10, 11, 12, 13, 14, 15, 16, 17], [15, 18])])
def rankB.B20 : List Nat := [0, 0, 0, 0, 0, 24, 0, 0, 0, 384, 960, 1984, 0, 0, 12288, 28672, 65475, 131011, 262143, 524287]
theorem rankB.tab20 : rtab .any (opsOf Try.f41 20) = rankB.T20 := by kernel_rfl
theorem rankB.bits20 : waitsOk rankB.T20.2 rankB.B20 = true := by kernel_rfl

mutual
def impl_net_rankWith.l0 : Nat → List Int → Int → List (List Int) → Int → Int → List Int → Option (Int)
 | 0, _, _, _, _, _, _ => none
 | k + 1, x1, x5, x6, x22, x23, x172000 => if x23 < x22 then (if 0 ≤ x5 then (if (x5 : Int).toNat ≤ 35184372088832 then (if 0 ≤ x23 then (if x23 < (x6.length : Int) then (impl_net_rankWith.l1 k x1 x5 (x6.set (x23 : Int).toNat (List.replicate (x5 : Int).toNat 0)) x23 x22 x23 x5 0 x172000) else (none)) else (none)) else (none)) else (none)) else (rankB.b0 k x6 x5 0 0)
def impl_net_rankWith.l1 : Nat → List Int → Int → List (List Int) → Int → Int → Int → Int → Int → List Int → Option (Int)
 | 0, _, _, _, _, _, _, _, _, _ => none
 | k + 1, x1, x5, x6, x7, x22, x23, x31, x32, x172000 => if x32 < x31 then (if 0 ≤ x7 then (if x7 < (x6.length : Int) then (if x7 < (x172000.length : Int) then (if 0 ≤ x32 then (if x32 < ((rd_L2 x6 x7).length : Int) then (impl_net_rankWith.l1 k x1 x5 (x6.set (x7 : Int).toNat ((rd_L2 x6 x7).set (x32 : Int).toNat (Go.bits .and .i64 (shr .i64 (rd x172000 x7) x32) 1))) x7 x22 x23 x31 (wrap64 (x32 + 1)) x172000) else (none)) else (none)) else (none)) else (none)) else (none)) else (if 0 ≤ x7 then (if x7 < (x6.length : Int) then (if x7 < (x1.length : Int) then (if x7 < ((rd_L2 x6 x7).length : Int) then (impl_net_rankWith.l0 k x1 x5 (x6.set (x7 : Int).toNat ((rd_L2 x6 x7).set (x7 : Int).toNat (rd x1 x7))) x22 (wrap64 (x23 + 1)) x172000) else (none)) else (none)) else (none)) else (none))
end
def impl_net_rankWith.f (k : Nat) (l0_0 : List Int) (l1 : List Int) : Option (Int) := (impl_net_size.f l0_0).bind fun t172 => (if 0 ≤ t172 then (if (t172 : Int).toNat ≤ 11728124029610 then ((some (List.replicate (t172 : Int).toNat [] : List (List Int))).bind fun y173 => (impl_net_rankWith.l0 k l1 t172 y173 (y173.length : Int) 0 l0_0)) else (none)) else (none))
theorem impl_net_rankWith.mono_l : ∀ k, (∀ y0 y1 y2 y3 y4 y5, LeO (impl_net_rankWith.l0 k y0 y1 y2 y3 y4 y5) (impl_net_rankWith.l0 (k + 1) y0 y1 y2 y3 y4 y5)) ∧ (∀ y0 y1 y2 y3 y4 y5 y6 y7 y8, LeO (impl_net_rankWith.l1 k y0 y1 y2 y3 y4 y5 y6 y7 y8) (impl_net_rankWith.l1 (k + 1) y0 y1 y2 y3 y4 y5 y6 y7 y8))
 | 0 => ⟨fun _ _ _ _ _ _ r h => by simp [impl_net_rankWith.l0] at h, fun _ _ _ _ _ _ _ _ _ r h => by simp [impl_net_rankWith.l1] at h⟩
 | k + 1 => by
  obtain ⟨ih0, ih1⟩ := impl_net_rankWith.mono_l k
  refine ⟨?_, ?_⟩
  ·intro y0 y1 y2 y3 y4 y5
   unfold impl_net_rankWith.l0
   repeat' first
   | (with_reducible exact ih0 _ _ _ _ _ _)
   | (with_reducible exact ih1 _ _ _ _ _ _ _ _ _)
   | (with_reducible exact rankB.mono0 _ _ _ _ _)
   | (with_reducible exact LeO.refl _)
   | (with_reducible exact LeO.none _)
   | (with_reducible refine LeO.ite ?_ ?_)
   | (with_reducible refine LeO.bind ?_ (fun _ => ?_))
   | exact ih0 _ _ _ _ _ _
   | exact ih1 _ _ _ _ _ _ _ _ _
   | exact rankB.mono0 _ _ _ _ _
   | exact LeO.none _
   | refine LeO.ite ?_ ?_
   | refine LeO.bind ?_ (fun _ => ?_)
  ·intro y0 y1 y2 y3 y4 y5 y6 y7 y8
   unfold impl_net_rankWith.l1
   repeat' first
   | (with_reducible exact ih0 _ _ _ _ _ _)
   | (with_reducible exact ih1 _ _ _ _ _ _ _ _ _)
   | (with_reducible exact rankB.mono0 _ _ _ _ _)
   | (with_reducible exact LeO.refl _)
   | (with_reducible exact LeO.none _)
   | (with_reducible refine LeO.ite ?_ ?_)
   | (with_reducible refine LeO.bind ?_ (fun _ => ?_))
   | exact ih0 _ _ _ _ _ _
   | exact ih1 _ _ _ _ _ _ _ _ _
   | exact rankB.mono0 _ _ _ _ _
   | exact LeO.none _
   | refine LeO.ite ?_ ?_
   | refine LeO.bind ?_ (fun _ => ?_)
theorem impl_net_rankWith.mono : ∀ a0 a1 k, LeO (impl_net_rankWith.f k a0 a1) (impl_net_rankWith.f (k + 1) a0 a1) := by
 intro a0 a1 k
 obtain ⟨ih0, ih1⟩ := impl_net_rankWith.mono_l k
 unfold impl_net_rankWith.f
 repeat' first
   | (with_reducible exact ih0 _ _ _ _ _ _)
   | (with_reducible exact ih1 _ _ _ _ _ _ _ _ _)
   | (with_reducible exact rankB.mono0 _ _ _ _ _)
   | (with_reducible exact LeO.refl _)
   | (with_reducible exact LeO.none _)
   | (with_reducible refine LeO.ite ?_ ?_)
   | (with_reducible refine LeO.bind ?_ (fun _ => ?_))
   | exact ih0 _ _ _ _ _ _
   | exact ih1 _ _ _ _ _ _ _ _ _
   | exact rankB.mono0 _ _ _ _ _
   | exact LeO.none _
   | refine LeO.ite ?_ ?_
   | refine LeO.bind ?_ (fun _ => ?_)
def impl_net_rankWith.T10 : Bool × List (List Nat × List Nat) := (true, [([], []), ([], []), ([0, 1], [0, 1]), ([2], [2]), ([], []), ([], []), ([5], [5]), ([], []), ([6, 7], [6, 7]), ([8], [8]), ([], []), ([9, 10], [9, 10]), ([11], [11]), ([3, 4, 0, 1, 2, 3, 4, 5, 6, 7, 8, 9, 10, 11, 12], [3, 4]), ([13, 12, 0, 1, 2, 3, 4, 5, 6, 7, 8, 9, 10, 11, 12], [12, 13])])
def impl_net_rankWith.B10 : List Nat := [0, 0, 3, 7, 0, 0, 32, 0, 224, 480, 0, 2016, 4064, 8191, 16383]
theorem impl_net_rankWith.tab10 : rtab .any (opsOf Try.f41 10) = impl_net_rankWith.T10 := by kernel_rfl
theorem impl_net_rankWith.bits10 : waitsOk impl_net_rankWith.T10.2 impl_net_rankWith.B10 = true := by kernel_rfl
def impl_net_rankWith.T12 : Bool × List (List Nat × List Nat) := (true, [([], []), ([], []), ([0, 1], [0, 1]), ([2], [2]), ([], []), ([], []), ([], []), ([5, 6], [5, 6]), ([7], [7]), ([3, 4, 0, 1, 2, 3, 4, 5, 6, 7, 8], [3, 4]), ([9, 8, 0, 1, 2, 3, 4, 5, 6, 7, 8], [8, 9])])
def impl_net_rankWith.B12 : List Nat := [0, 0, 3, 7, 0, 0, 0, 96, 224, 511, 1023]
theorem impl_net_rankWith.tab12 : rtab .any (opsOf Try.f41 12) = impl_net_rankWith.T12 := by kernel_rfl
theorem impl_net_rankWith.bits12 : waitsOk impl_net_rankWith.T12.2 impl_net_rankWith.B12 = true := by kernel_rfl
set_option maxHeartbeats 8000000 in
set_option maxRecDepth 100000 in
theorem impl_net_rankWith.calls (k : Nat) (A0_0 : Option Addr) (c0_0 : Nat) (l0_0 : List Int) (A1 : Option Addr) (c1 : Nat) (l1 : List Int) (r : Int) (w : World) (hr0_0 : Kd.C (Kd.int .i64) w A0_0 l0_0.length l0_0) (hc0_0 : l0_0.length ≤ c0_0) (hr1 : Kd.C (Kd.int .i64) w A1 l1.length l1) (hc1 : l1.length ≤ c1) (h : impl_net_rankWith.f k l0_0 l1 = some r) :
  Calls Try.prog 41 #[.agg #[.slice A0_0 l0_0.length c0_0], .slice A1 l1.length c1] w fun e w' => e = .returned (.int .i64 r) ∧ Below w.heap.size w w' := by
 have hu56 := Try.underlying56
 have HR0_0 := Aside0.mk hr0_0
 have HC0_0 := Aside0.mk hc0_0
 clear hr0_0 hc0_0
 have HR1 := Aside0.mk hr1
 have HC1 := Aside0.mk hc1
 clear hr1 hc1
 have HB := Aside0.mk (Below.refl w.heap.size w)
 have H : ((impl_net_size.f l0_0).bind fun t172 => (if 0 ≤ t172 then (if (t172 : Int).toNat ≤ 11728124029610 then ((some (List.replicate (t172 : Int).toNat [] : List (List Int))).bind fun y173 => (impl_net_rankWith.l0 k l1 t172 y173 (y173.length : Int) 0 l0_0)) else (none)) else (none))) = some r := h
 clear h
 replace H := Option.bind_eq_some_iff.mp H
 obtain ⟨t172, A30, H⟩ := H
 replace H : (if 0 ≤ t172 then (if (t172 : Int).toNat ≤ 11728124029610 then ((some (List.replicate (t172 : Int).toNat [] : List (List Int))).bind fun y173 => (impl_net_rankWith.l0 k l1 t172 y173 (y173.length : Int) 0 l0_0)) else (none)) else (none)) = some r := H
 have A3 := Aside0.mk A30
 clear A30
 by_cases c4 : 0 ≤ t172
 ·rw [if_pos c4] at H
  have c4b0 := eq_true c4
  have c4b1 : decide (0 ≤ t172) = true := decide_eq_true c4
  clear c4
  by_cases c5 : (t172 : Int).toNat ≤ 11728124029610
  ·rw [if_pos c5] at H
   have c5b0 := eq_true c5
   have c5b1 : decide ((t172 : Int).toNat ≤ 11728124029610) = true := decide_eq_true c5
   clear c5
   obtain ⟨y173, hy173⟩ : ∃ y_ : List (List Int), y_ = (List.replicate (t172 : Int).toNat []) := ⟨_, rfl⟩
   replace H : (impl_net_rankWith.l0 k l1 t172 y173 (y173.length : Int) 0 l0_0) = some r := by first | (rw [hy173];with_reducible exact H) | (have H2_ := (Option.bind_some _ _).symm.trans H;rw [hy173];with_reducible exact H2_) | (have H2_ := (Option.bind_some _ _).symm.trans H;with_reducible exact H2_) | with_reducible exact H | (rw [hy173];exact H) | exact H
   have Ny173 := Aside0.mk hy173
   clear hy173
   have H' := Aside0.mk H
   clear H
   go_enter Try.func41, Try.ntmps41
   go_wp2_with (first | ((with_reducible refine gate_dst (N := 2) rfl ?_);refine box_event ?hg (N := 2) ?hd (cs := #[.slice A0_0 l0_0.length c0_0]) (t := 56) ?hr ?_;(case hd => rfl);(case hg => rfl);(case hr => first | (go_simp;done) | (go_simp;rfl));intro gb171 hg w6 hbox hb;have n0_ := Aside0.mk (below_step (by exact bB) hb);have n1_ := Aside0.mk (hbox);have n2_ := Aside0.mk ((by rw [hg];exact (below_size (by exact bB)) : w.heap.size ≤ gb171));have n3_ := Aside0.mk ((by rw [hg];exact (below_size (by exact bB)) : w.heap.size ≤ gb171));clear HB;have HB := n0_;have BK171 := n1_;have GW171 := n2_;have GE171 := n3_;clear n0_ n1_ n2_ n3_;clear hb hbox hg;have hcz7_0 : w6.cell? ⟨gb171, 0, none⟩ = some (.slice A0_0 l0_0.length c0_0) := (blk_cell BK171.out 0).trans rfl;have hfz7_0 := blk_frozen BK171.out 0) | ((with_reducible refine gate_callee (f := 67) rfl ?_);refine goesL_ (some 18) rfl rfl Try.func67 (by kernel_rfl) rfl #[.agg #[.slice A0_0 l0_0.length c0_0]] rfl mM ?_;(with_reducible refine (impl_net_size.calls _ _ l0_0 t172 _ ?side1 ?side2 A3.out).mono ?_);(case side1 => exact cP (Kd.C_below HR0_0.out HB.out));(case side2 => exact HC0_0.out);rintro e w8 ⟨rfl, hb⟩;refine ⟨_, rfl, ?_⟩;have n0_ := Aside0.mk (blk_below (g := gb171) (o := .cells #[.slice A0_0 l0_0.length c0_0] 56 (0, 0)) (by exact kP BK171.out) hb);have n1_ := Aside0.mk (below_step (by exact bB) hb);clear BK171;clear HB;have BK171 := n0_;have HB := n1_;clear n0_ n1_;(try clear hb);(try clear hb2);(try clear hk);(try clear hi)) | ((with_reducible refine gate_dst (N := 20) rfl ?_);refine Kd.S_make (Kd.slice 3 (Kd.int .i64)) _ 25 rfl (N := 20) rfl 37 _ _ rfl t172 rfl rfl Try.underlying37 (.slice none 0 0) 24 info25 rfl (by decide) (by omega) [] (ok := fun _ => True) (okp := fun _ => True) ⟨_, rfl, Kd.R_nil _ _ _ _ _⟩ (fun _ hk => hk) trivial (oA) (Nat.le_trans (Nat.mul_le_mul_right _ (oA : t172.toNat ≤ 11728124029610)) (by omega)) (Below.refl _ _) (Nat.le_refl _) ?_;intro v174 w9 ho10 hb hg_ hnew_;clear hg_ hnew_;(first | rw [← Ny173.out] at ho10 | (simp only [Int.reduceToNat] at ho10;rw [← Ny173.out] at ho10));have n0_ := Aside0.mk (Kd.S_lower ho10 (below_size (by exact bB)));have n1_ := Aside0.mk (blk_below (g := gb171) (o := .cells #[.slice A0_0 l0_0.length c0_0] 56 (0, 0)) (by exact kP BK171.out) hb);have n2_ := Aside0.mk (below_step (by exact bB) hb);clear BK171;clear HB;have HO175 := n0_;have BK171 := n1_;have HB := n2_;clear n0_ n1_ n2_;clear hb ho10;obtain ⟨Ao11, co11, eo11⟩ := Kd.S_slice HO175.out;subst eo11))
   go_loopg [23] k (fun kq v23 w' => ∃ (x6_1 : List (List Int)) (x23_1 : Int), v23 = .int .i64 x23_1 ∧ Aside0 (impl_net_rankWith.l0 kq l1 t172 x6_1 (y173.length : Int) x23_1 l0_0 = some r) ∧ Aside0 (kq ≤ k) ∧ Aside0 (Kd.S (Kd.slice 3 (Kd.int .i64)) 25 w' w.heap.size (fun _ => True) (.slice Ao11 y173.length co11) x6_1) ∧ Aside0 (w'.heap[gb171]? = some (.cells #[(.slice A0_0 l0_0.length c0_0)] 56 (0, 0))) ∧ Aside0 (Below w.heap.size w w'))
   case atStart => exact ⟨(y173), (0), (by first | rfl | (simp;done) | (simp [*];done)), H', ⟨Nat.le_refl _⟩, ⟨by (with_reducible repeat (first | apply Kd.S_alloc | apply Kd.S_drewN | apply Kd.S_drew));exact HO175.out⟩, ⟨by exact kP BK171.out⟩, ⟨by exact bB⟩⟩
   case round =>
    clear H'
    try clear c1
    try clear p2
    try clear c4
    try clear c4b0
    try clear c4b1
    try clear c5
    try clear c5b0
    try clear c5b1
    try clear c6
    try clear hcz7_0
    try clear hfz7_0
    obtain ⟨x6_1, x23_1, rfl, HA, HK1, HO_6, BK171, HB⟩ := hrel
    have hl6_1 := (Kd.S_reads' HO_6.out).1
    rw [hl6_1] at HO_6
    (try simp only [hl6_1])
    (try simp only [hl6_1] at BK171)
    cases gk with
    | zero => exact absurd HA.out (by simp [impl_net_rankWith.l0])
    | succ k1 =>
     have H := HA.out
     clear HA
     simp only [impl_net_rankWith.l0] at H
     by_cases c12 : x23_1 < (y173.length : Int)
     ·rw [if_pos c12] at H
      have c12b0 : decide (x23_1 < (y173.length : Int)) = true := decide_eq_true c12
      clear c12
      by_cases c13 : 0 ≤ t172
      ·rw [if_pos c13] at H
       have c13b0 := eq_true c13
       have c13b1 : decide (0 ≤ t172) = true := decide_eq_true c13
       clear c13
       by_cases c14 : (t172 : Int).toNat ≤ 35184372088832
       ·rw [if_pos c14] at H
        have c14b0 := eq_true c14
        have c14b1 : decide ((t172 : Int).toNat ≤ 35184372088832) = true := decide_eq_true c14
        clear c14
        obtain ⟨y177, hy177⟩ : ∃ y_ : List Int, y_ = (List.replicate (t172 : Int).toNat 0) := ⟨_, rfl⟩
        replace H : (if 0 ≤ x23_1 then (if x23_1 < (x6_1.length : Int) then (impl_net_rankWith.l1 k1 l1 t172 (x6_1.set (x23_1 : Int).toNat y177) x23_1 (y173.length : Int) x23_1 t172 0 l0_0) else (none)) else (none)) = some r := by first | (rw [hy177];with_reducible exact H) | (have H2_ := (Option.bind_some _ _).symm.trans H;rw [hy177];with_reducible exact H2_) | (have H2_ := (Option.bind_some _ _).symm.trans H;with_reducible exact H2_) | with_reducible exact H | (rw [hy177];exact H) | exact H
        have Ny177 := Aside0.mk hy177
        clear hy177
        by_cases c15 : 0 ≤ x23_1
        ·rw [if_pos c15] at H
         have c15b0 : decide (0 ≤ x23_1) = true := decide_eq_true c15
         clear c15
         by_cases c16 : x23_1 < (x6_1.length : Int)
         ·rw [if_pos c16] at H
          have c16b0 : decide (x23_1 < (x6_1.length : Int)) = true := decide_eq_true c16
          clear c16
          obtain ⟨y180, hy180⟩ : ∃ y_ : List (List Int), y_ = (x6_1.set (x23_1 : Int).toNat y177) := ⟨_, rfl⟩
          replace H : (impl_net_rankWith.l1 k1 l1 t172 y180 x23_1 (y173.length : Int) x23_1 t172 0 l0_0) = some r := by first | (rw [hy180];with_reducible exact H) | (have H2_ := (Option.bind_some _ _).symm.trans H;rw [hy180];with_reducible exact H2_) | (have H2_ := (Option.bind_some _ _).symm.trans H;with_reducible exact H2_) | with_reducible exact H | (rw [hy180];exact H) | exact H
          have Ny180 := Aside0.mk hy180
          clear hy180
          have H' := Aside0.mk H
          clear H
          go_wp2_with (first | ((with_reducible refine gate_dst (N := 29) rfl ?_);refine Kd.R_make (Kd.int .i64) _ 3 rfl (N := 29) rfl 25 _ _ rfl t172 rfl rfl Try.underlying25 (.int .i64 0) 8 info3 rfl (by decide) (by omega) 0 (ok := fun _ => True) (okp := fun _ => True) rfl (fun _ hk => hk) trivial (oA) (Nat.le_trans (Nat.mul_le_mul_right _ (oA : t172.toNat ≤ 35184372088832)) (by omega)) (Below.refl _ _) (Nat.le_refl _) ?_;intro v178 w18 ho19 hb hg_ hnew_;clear hg_ hnew_;(first | rw [← Ny177.out] at ho19 | (simp only [Int.reduceToNat] at ho19;rw [← Ny177.out] at ho19));have n0_ := Aside0.mk (Kd.S_elder' (by (with_reducible repeat (first | apply Kd.S_alloc | apply Kd.S_drewN | apply Kd.S_drew));exact HO_6.out) (Kd.R_base ho19) hb);have n1_ := Aside0.mk (Kd.R_lower ho19 (below_size (by exact bB)));have n2_ := Aside0.mk (blk_below (g := gb171) (o := .cells #[.slice A0_0 l0_0.length c0_0] 56 (0, 0)) (by exact kP BK171.out) hb);have n3_ := Aside0.mk (below_step (by exact bB) hb);clear HO_6;clear BK171;clear HB;have HO_6 := n0_;have HO179 := n1_;have BK171 := n2_;have HB := n3_;clear n0_ n1_ n2_ n3_;clear hb ho19;have p17 : 0 ≤ (x23_1 : Int) := oA;have q17 : (x23_1 : Int) < ((x6_1.length : Int) : Int) := oA;obtain ⟨go17, co17, eo17, gb17, gl17, cl17, HG17⟩ := Kd.S_form HO_6.out (by omega);(first | cases eo17 | (injection eo17 with ea_ en_ ec_;(first | subst ea_ | (injection ea_ with ea_;subst ea_));subst ec_;clear en_));have GB17 := Aside0.mk gb17;have GG17 := Aside0.mk HG17;clear gb17 gl17 HG17;obtain ⟨_, ce17, hcl17, hM17, hcc17, hfr17, _, _⟩ := Kd.S_elem HO_6.out [] (x23_1 : Int) p17 q17;obtain ⟨ve17_0, rfl, ge17_0⟩ := hM17;have hx17_0 := hcc17 0 _ rfl;have hf17_0 := hfr17 0;(try simp only [show ((Kd.slice 3 (Kd.int .i64))).sz = 1 from rfl, Nat.mul_one, Nat.add_zero] at hx17_0);(try simp only [show ((Kd.slice 3 (Kd.int .i64))).sz = 1 from rfl, Nat.mul_one, Nat.add_zero] at hf17_0);clear hcl17 hcc17 hfr17;(try clear hM17);replace p17 := eq_true p17;replace q17 := eq_true q17;have n_ := Aside0.mk (Kd.S_mono (ok' := (fun k_ => some k_ ≠ (v178 : Value).ownBlock)) HO_6.out (fun k_ hk => hk.2));clear HO_6;have HO_6 := n_;clear n_;have HX20 := Aside0.mk (show Kd.S (Kd.slice 3 (Kd.int .i64)) 25 w18 w.heap.size (fun k_ => ((fun _ => True)) k_ ∧ ¬ ((fun k_ => some k_ = (v178 : Value).ownBlock)) k_) (.slice (some ⟨go17, 0, none⟩) x6_1.length co11) x6_1 from (by (with_reducible repeat (first | apply Kd.S_alloc | apply Kd.S_drewN | apply Kd.S_drew));exact Kd.S_mono HO_6.out (fun k_ hk => ⟨trivial, fun e_ => hk e_⟩)));obtain ⟨oki20, ce20, hcl20, hM20, hcc20, hfr20, hoki20, hH20⟩ := Kd.S_elem HX20.out [] (x23_1 : Int) (oA) (by have h_ : (x23_1 : Int) < ((x6_1.length : Int) : Int) := oA;first | exact h_ | (have e_ := (Kd.S_reads' HO_6.out).1;omega) | simpa using h_);obtain ⟨ve20_0, rfl, ge20_0⟩ := hM20;have HP20 := Kd.S_seg hH20 (oA) (by have h_ : (x23_1 : Int) < ((x6_1.length : Int) : Int) := oA;first | exact h_ | (have e_ := (Kd.S_reads' HO_6.out).1;omega) | simpa using h_) (seg := [v178]) (j := 0) (show 1 ≤ 1 from by decide) (x' := y177) (Kd.M_row (Kd.R_mono (Kd.R_tight rfl (Kd.R_mono (ok' := fun k_ => ((fun _ => True)) k_ ∧ k_ ≠ go17) (Kd.R_apart' (HO179.out) (Kd.S_typed HO_6.out) (by decide)) (fun k_ hk => ⟨trivial, fun e_ => (hk.2) (by rw [e_];rfl)⟩))) (fun _ h_ => Or.inr (h_)))) (fun _ hk => hk) (fun k_ hk_ => ((Kd.R_mono (ok' := fun k_ => ((fun _ => True)) k_ ∧ k_ ≠ go17) (Kd.R_apart' (HO179.out) (Kd.S_typed HO_6.out) (by decide)) (fun k_ hk => ⟨trivial, fun e_ => (hk.2) (by rw [e_];rfl)⟩))).1 k_ hk_.symm);have hx20_0 := hcc20 0 _ rfl;(try simp only [show ((Kd.slice 3 (Kd.int .i64))).sz = 1 from rfl, Nat.mul_one, Nat.add_zero] at hx20_0);have hf20_0 := hfr20 0;(try simp only [show ((Kd.slice 3 (Kd.int .i64))).sz = 1 from rfl, Nat.mul_one, Nat.add_zero] at hf20_0);clear hcl20 hcc20 hfr20 hoki20 hH20;(try clear hM20);(try simp only [show ((Kd.slice 3 (Kd.int .i64))).sz = 1 from rfl, Nat.mul_one, Nat.add_zero] at HP20)) | ((with_reducible refine gate_store (t := 25) (p := 30) rfl ?_);refine store_event (t := 25) (p := 30) (v := ?vo_w21) (w1 := (w18.setCell ⟨go17, (x23_1 : Int).toNat, none⟩ (v178))) ?hg ?ho ?hn ?hr ?_;(case ho => rfl);(case hg => rfl);(case hn => rfl);(case hr => first | (go_simp;done) | (go_simp;rfl) | (obtain ⟨_, _, ez_⟩ := Kd.R_slice HO179.out;subst ez_;go_simp;first | done | rfl));intro w21 hw;have hg : w18.grownBy w21 (some go17) := (by rw [hw];exact HP20.2);have hp_ : Kd.S (Kd.slice 3 (Kd.int .i64)) 25 w21 w.heap.size (fun _ => True) (.slice (some ⟨go17, 0, none⟩) x6_1.length co11) y180 := (by rw [hw, Ny180.out];exact HP20.1);clear HP20;have n0_ := Aside0.mk (hp_);have n1_ := Aside0.mk (blk_grown (g := gb171) (o := .cells #[.slice A0_0 l0_0.length c0_0] 56 (0, 0)) (by exact kP BK171.out) hg (Kd.S_ne HO_6.out BK171.out (by decide)));have n2_ := Aside0.mk ((by rw [hw];exact below_set (HB.out) GB17.out : Below w.heap.size w w21));clear HO_6;clear BK171;clear HB;clear HO179;have HO_6 := n0_;have BK171 := n1_;have HB := n2_;clear n0_ n1_ n2_;clear hg hw hp_))
          go_loopg [32] k1 (fun kq v32 w' => ∃ (x6_2 : List (List Int)) (x32_2 : Int), v32 = .int .i64 x32_2 ∧ Aside0 (impl_net_rankWith.l1 kq l1 t172 x6_2 x23_1 (y173.length : Int) x23_1 t172 x32_2 l0_0 = some r) ∧ Aside0 (kq ≤ k1) ∧ Aside0 (Kd.S (Kd.slice 3 (Kd.int .i64)) 25 w' w.heap.size (fun _ => True) (.slice (some ⟨go17, 0, none⟩) x6_1.length co11) x6_2) ∧ Aside0 (w'.heap[gb171]? = some (.cells #[(.slice A0_0 l0_0.length c0_0)] 56 (0, 0))) ∧ Aside0 (Below w.heap.size w w'))
          case atStart => exact ⟨(y180), (0), (by first | rfl | (simp;done) | (simp [*];done)), H', ⟨Nat.le_refl _⟩, ⟨by (try simp only [hl6_1]);(with_reducible repeat (first | apply Kd.S_alloc | apply Kd.S_drewN | apply Kd.S_drew));exact HO_6.out⟩, ⟨by (try simp only [hl6_1]);exact kP BK171.out⟩, ⟨by exact bB⟩⟩
          case round =>
           clear H'
           try clear c1
           try clear p1
           try clear q1
           try clear hx1
           try clear c2
           try clear p2
           try clear hx2
           try clear hf2
           try clear c4
           try clear c4b0
           try clear c4b1
           try clear c5
           try clear c5b0
           try clear c5b1
           try clear c6
           try clear c12
           try clear c12b0
           try clear c13
           try clear c13b0
           try clear c13b1
           try clear c14
           try clear c14b0
           try clear c14b1
           try clear c15
           try clear c15b0
           try clear c16
           try clear c16b0
           try clear c17
           try clear p17
           try clear q17
           try clear hx17
           try clear hf17
           try clear c20
           try clear hx20
           try clear hf20
           try clear hcz7_0
           try clear hfz7_0
           try clear hx17_0
           try clear hx20_0
           try clear p17
           try clear p2
           try clear q17
           obtain ⟨x6_2, x32_2, rfl, HA, HK2, HO_6, BK171, HB⟩ := hrel
           have hl6_2 := (Kd.S_reads' HO_6.out).1
           rw [hl6_2] at HO_6
           (try simp only [hl6_2])
           (try simp only [hl6_2] at BK171)
           cases gk with
           | zero => exact absurd HA.out (by simp [impl_net_rankWith.l1])
           | succ k2 =>
            have H := HA.out
            clear HA
            simp only [impl_net_rankWith.l1] at H
            by_cases c22 : x32_2 < t172
            ·rw [if_pos c22] at H
             have c22b0 : decide (x32_2 < t172) = true := decide_eq_true c22
             clear c22
             by_cases c23 : 0 ≤ x23_1
             ·rw [if_pos c23] at H
              have c23b0 : decide (0 ≤ x23_1) = true := decide_eq_true c23
              clear c23
              by_cases c24 : x23_1 < (x6_2.length : Int)
              ·rw [if_pos c24] at H
               have c24b0 : decide (x23_1 < (x6_2.length : Int)) = true := decide_eq_true c24
               clear c24
               by_cases c25 : x23_1 < (l0_0.length : Int)
               ·rw [if_pos c25] at H
                have c25b0 : decide (x23_1 < (l0_0.length : Int)) = true := decide_eq_true c25
                clear c25
                by_cases c26 : 0 ≤ x32_2
                ·rw [if_pos c26] at H
                 have c26b0 := eq_true c26
                 have c26b1 : decide (0 ≤ x32_2) = true := decide_eq_true c26
                 clear c26
                 obtain ⟨ji27, hji27⟩ : ∃ j_ : Int, (shr .i64 (rd l0_0 x23_1) x32_2) = j_ := ⟨_, rfl⟩
                 replace H : (if x32_2 < ((rd_L2 x6_2 x23_1).length : Int) then (impl_net_rankWith.l1 k2 l1 t172 (x6_2.set (x23_1 : Int).toNat ((rd_L2 x6_2 x23_1).set (x32_2 : Int).toNat (Go.bits .and .i64 (ji27) 1))) x23_1 (y173.length : Int) x23_1 t172 (wrap64 (x32_2 + 1)) l0_0) else (none)) = some r := by first | (rw [hji27] at H;exact H) | (simp only [hji27] at H ⊢;exact H)
                 have hji27_ : ((rd l0_0 x23_1) / 2 ^ min x32_2.toNat 64) = ji27 := hji27
                 have hji27z : x32_2 ≤ 64 → ((rd l0_0 x23_1) / 2 ^ x32_2.toNat) = ji27 := shr_small hji27
                 by_cases c28 : x32_2 < ((rd_L2 x6_2 x23_1).length : Int)
                 ·rw [if_pos c28] at H
                  have c28b0 : decide (x32_2 < ((rd_L2 x6_2 x23_1).length : Int)) = true := decide_eq_true c28
                  clear c28
                  obtain ⟨y183, hy183⟩ : ∃ y_ : List Int, y_ = ((rd_L2 x6_2 x23_1).set (x32_2 : Int).toNat (Go.bits .and .i64 (ji27) 1)) := ⟨_, rfl⟩
                  replace H : (impl_net_rankWith.l1 k2 l1 t172 (x6_2.set (x23_1 : Int).toNat y183) x23_1 (y173.length : Int) x23_1 t172 (wrap64 (x32_2 + 1)) l0_0) = some r := by first | (rw [hy183];with_reducible exact H) | (have H2_ := (Option.bind_some _ _).symm.trans H;rw [hy183];with_reducible exact H2_) | (have H2_ := (Option.bind_some _ _).symm.trans H;with_reducible exact H2_) | with_reducible exact H | (rw [hy183];exact H) | exact H
                  have Ny183 := Aside0.mk hy183
                  clear hy183
                  obtain ⟨y185, hy185⟩ : ∃ y_ : List (List Int), y_ = (x6_2.set (x23_1 : Int).toNat y183) := ⟨_, rfl⟩
                  replace H : (impl_net_rankWith.l1 k2 l1 t172 y185 x23_1 (y173.length : Int) x23_1 t172 (wrap64 (x32_2 + 1)) l0_0) = some r := by first | (rw [hy185];with_reducible exact H) | (have H2_ := (Option.bind_some _ _).symm.trans H;rw [hy185];with_reducible exact H2_) | (have H2_ := (Option.bind_some _ _).symm.trans H;with_reducible exact H2_) | with_reducible exact H | (rw [hy185];exact H) | exact H
                  have Ny185 := Aside0.mk hy185
                  clear hy185
                  have H' := Aside0.mk H
                  clear H
                  try go_wp2
                  have n0_ := Aside0.mk (Kd.S_drew HO_6.out)
                  have n1_ := Aside0.mk (blk_drew BK171.out)
                  have n2_ := Aside0.mk (below_drew1 HB.out)
                  clear HO_6
                  clear BK171
                  clear HB
                  have HO_6 := n0_
                  have BK171 := n1_
                  have HB := n2_
                  clear n0_ n1_ n2_
                  have p181 : 0 ≤ (x23_1 : Int) := oA
                  have q181 : x23_1 < (x6_2.length : Int) := oA
                  obtain ⟨ad181, A181_0, c181_0, e181, hx181_0, hl181_0, hi181_0⟩ := at_L2 (Kd.S_reads' HO_6.out).2.2 x23_1 p181 q181
                  obtain rfl : (⟨go17, 0, none⟩ : Addr) = ad181 := (by injection e181)
                  obtain ⟨ce181, hce181, hMe181, hcc181⟩ := Kd.S_get HO_6.out [] x23_1 p181 (by first | exact q181 | exact oA | (have e_ := (Kd.S_reads' HO_6.out).1;omega))
                  obtain ⟨ve181_0, rfl, ge181_0⟩ := hMe181
                  have hv181_0 := hcc181 0 _ rfl
                  rw [Nat.add_zero, show ((Kd.slice 3 (Kd.int .i64))).sz = 1 from rfl, Nat.mul_one] at hv181_0
                  replace hv181_0 := Option.some.inj (hv181_0.symm.trans hx181_0)
                  rw [hv181_0] at ge181_0
                  have HL181_0 := Aside0.mk (show Kd.R (Kd.int .i64) 3 _ _ _ _ (rd_L2 x6_2 x23_1) from ge181_0)
                  clear hv181_0 ge181_0
                  have HX181_0 := Aside0.mk hx181_0
                  clear hcc181 hce181
                  (first | simp only [add_plain] at hx181_0 | simp only [add_at] at hx181_0 | simp only [Addr.add, Nat.zero_add] at hx181_0 | skip)
                  have HR181_0 := Aside0.mk hi181_0
                  have HC181_0 := Aside0.mk hl181_0
                  clear hi181_0 hl181_0
                  replace p181 := eq_true p181
                  replace q181 := eq_true q181
                  have p182 : 0 ≤ (x23_1 : Int) := oA
                  have q182 : x23_1 < (l0_0.length : Int) := oA
                  obtain ⟨ad182, e182, hx182_0⟩ := Kd.at_int HR0_0.out x23_1 p182 q182
                  have hw182_0 := hx182_0
                  cases e182
                  replace hx182_0 := (HB.out.cell (World.block_lt_of_cell? w _ hx182_0)).trans hx182_0
                  replace p182 := eq_true p182
                  replace q182 := eq_true q182
                  have p29 : 0 ≤ (x32_2 : Int) := oA
                  have q29 : (x32_2 : Int) < (((rd_L2 x6_2 x23_1).length : Int) : Int) := oA
                  obtain ⟨go29, co29, eo29, gb29, gl29, cl29, HG29⟩ := Kd.R_form HL181_0.out (by omega)
                  (first | cases eo29 | (injection eo29 with ea_ en_ ec_;(first | subst ea_ | (injection ea_ with ea_;subst ea_));subst ec_;clear en_))
                  have GB29 := Aside0.mk gb29
                  have GG29 := Aside0.mk HG29
                  clear gb29 gl29 HG29
                  obtain ⟨hx29_0, hf29_0⟩ := Kd.R_celln 0 HL181_0.out (x32_2 : Int) p29 q29
                  replace p29 := eq_true p29
                  replace q29 := eq_true q29
                  have hq31 : (x23_1 : Int) < (x6_2.length : Int) := (by have h_ : (x23_1 : Int) < ((x6_2.length : Int) : Int) := oA;first | exact h_ | (have e_ := (Kd.S_reads' HO_6.out).1;omega) | simpa only [List.length_set, List.length_set] using h_)
                  obtain ⟨oki31, ce31, hcl31, hM31, hcc31, hok31, hbk31⟩ := Kd.S_borrow HO_6.out [] (x23_1 : Int) (oA) hq31
                  obtain ⟨ve31_0, rfl, ge31_0⟩ := hM31
                  have hv31 := hcc31 0 _ rfl
                  rw [Nat.add_zero, show ((Kd.slice 3 (Kd.int .i64))).sz = 1 from rfl, Nat.mul_one] at hv31
                  replace hv31 := Option.some.inj (hv31.symm.trans HX181_0.out)
                  subst hv31
                  clear hcc31 hcl31
                  replace ge31_0 := (show Kd.R (Kd.int .i64) 3 _ _ _ _ (rd_L2 x6_2 x23_1) from ge31_0)
                  have HP31 := Kd.R_putg ge31_0 (x32_2 : Int) (Go.bits .and .i64 (ji27) 1)
                  rw [← Ny183.out] at HP31
                  have HS31 := hbk31 HP31.2 (fun k_ e_ => by injection e_ with e_;subst e_;exact ge31_0.1 _ rfl) (x' := y183) (Kd.M_row HP31.1)
                  rw [← Ny185.out] at HS31
                  have HQ31 := Aside0.mk HS31
                  clear HP31 HS31 hbk31 hok31
                  refine start_ (n := 15) (S := fun w' => w'.cell? ⟨gb171, 0, none⟩ = some (.slice (some ad182) l0_0.length c0_0) ∧ w'.cell? ⟨go17, (x23_1).toNat, none⟩ = some (.slice (some ⟨go29, 0, none⟩) (rd_L2 x6_2 x23_1).length c181_0) ∧ w'.cell? (ad182.add (x23_1).toNat) = some (.int .i64 (rd l0_0 x23_1))) (ds := [14]) #[false,false,false,false,false,false,false,false,false,false,false,false,false,false,false] (by kernel_rfl) rfl rfl ⟨(blk_cell BK171.out 0).trans rfl, hx181_0, ((HB.out.cell (World.block_lt_of_cell? w _ hw182_0)).trans hw182_0)⟩ (fun hHeld => ?_);refine with_tabW impl_net_rankWith.tab10 impl_net_rankWith.bits10 (fun HT_ HW_ => ?_)
                  generalize wr.drew = w30 at HO_6 BK171 HB GG29 HL181_0 HQ31 HR181_0 HX181_0 hf29_0 hx181_0 hx182_0 hx29_0 hHeld ⊢
                  refine pure_ (i := 0) (N := some 35) (v := ?_) (a' := ?_) #[true,false,false,false,false,false,false,false,false,false,false,false,false,false,false] rfl rfl (any_of HT_.out (by kernel_rfl)) (fun _ _ _ h => h) (Or.inl ⟨by rfl, ?_⟩) ?_ ?_
                  rotate_left
                  ·intro w'
                   go_simp
                   with_reducible rfl
                  rotate_left
                  ·simp only [Act.put, List.setIfInBounds_toArray, List.set_cons_zero, List.set_cons_succ, i64_w, i32_w]
                   rfl
                  refine pure_ (i := 1) (N := some 36) (v := ?_) (a' := ?_) #[true,true,false,false,false,false,false,false,false,false,false,false,false,false,false] rfl rfl (any_of HT_.out (by kernel_rfl)) (fun _ _ _ h => h) (Or.inl ⟨by rfl, ?_⟩) ?_ ?_
                  rotate_left
                  ·intro w'
                   go_simp
                   with_reducible rfl
                  rotate_left
                  ·simp only [Act.put, List.setIfInBounds_toArray, List.set_cons_zero, List.set_cons_succ, i64_w, i32_w]
                   rfl
                  refine pure_ (i := 2) (N := some 37) (v := ?_) (a' := ?_) #[true,true,true,false,false,false,false,false,false,false,false,false,false,false,false] rfl rfl (any_of HT_.out (by kernel_rfl)) (fun _ _ _ h => h) (Or.inl ⟨by rfl, ?_⟩) ?_ ?_
                  rotate_left
                  ·intro w'
                   go_simp
                   with_reducible rfl
                  rotate_left
                  ·simp only [Act.put, List.setIfInBounds_toArray, List.set_cons_zero, List.set_cons_succ, i64_w, i32_w]
                   rfl
                  refine pure_ (i := 4) (N := some 39) (v := ?_) (a' := ?_) #[true,true,true,false,true,false,false,false,false,false,false,false,false,false,false] rfl rfl (any_of HT_.out (by kernel_rfl)) (fun _ _ _ h => h) (Or.inl ⟨by rfl, ?_⟩) ?_ ?_
                  rotate_left
                  ·intro w'
                   go_simp
                   with_reducible rfl
                  rotate_left
                  ·simp only [Act.put, List.setIfInBounds_toArray, List.set_cons_zero, List.set_cons_succ, i64_w, i32_w]
                   rfl
                  refine pure_ (i := 5) (N := some 40) (v := ?_) (a' := ?_) #[true,true,true,false,true,true,false,false,false,false,false,false,false,false,false] rfl rfl (any_of HT_.out (by kernel_rfl)) (fun _ _ _ h => h) (Or.inl ⟨by rfl, ?_⟩) ?_ ?_
                  rotate_left
                  ·intro w'
                   go_simp
                   with_reducible rfl
                  rotate_left
                  ·simp only [Act.put, List.setIfInBounds_toArray, List.set_cons_zero, List.set_cons_succ, i64_w, i32_w]
                   rfl
                  refine pure_ (i := 7) (N := some 42) (v := ?_) (a' := ?_) #[true,true,true,false,true,true,false,true,false,false,false,false,false,false,false] rfl rfl (any_of HT_.out (by kernel_rfl)) (fun _ _ _ h => h) (Or.inl ⟨by rfl, ?_⟩) ?_ ?_
                  rotate_left
                  ·intro w'
                   go_simp
                   with_reducible rfl
                  rotate_left
                  ·simp only [Act.put, List.setIfInBounds_toArray, List.set_cons_zero, List.set_cons_succ, i64_w, i32_w]
                   rfl
                  refine pure_ (i := 10) (N := some 45) (v := ?_) (a' := ?_) #[true,true,true,false,true,true,false,true,false,false,true,false,false,false,false] rfl rfl (any_of HT_.out (by kernel_rfl)) (fun _ _ _ h => h) (Or.inl ⟨by rfl, ?_⟩) ?_ ?_
                  rotate_left
                  ·intro w'
                   go_simp
                   with_reducible rfl
                  rotate_left
                  ·simp only [Act.put, List.setIfInBounds_toArray, List.set_cons_zero, List.set_cons_succ, i64_w, i32_w]
                   rfl
                  refine take_ (i := 3) (N := some 38) (v := ?_) (a' := ?_) #[true,true,true,true,true,true,false,true,false,false,true,false,false,false,false] rfl rfl (take_ofW HT_.out HW_.out (by kernel_rfl)) (fun _ _ _ h => h) (Or.inl ⟨by rfl, ?_⟩) hHeld ?_ ?_
                  rotate_left
                  ·rintro w' ⟨s0, s1, s2⟩
                   go_simp
                   with_reducible rfl
                  rotate_left
                  ·simp only [Act.put, List.setIfInBounds_toArray, List.set_cons_zero, List.set_cons_succ, i64_w, i32_w]
                   rfl
                  refine take_ (i := 6) (N := some 41) (v := ?_) (a' := ?_) #[true,true,true,true,true,true,true,true,false,false,true,false,false,false,false] rfl rfl (take_ofW HT_.out HW_.out (by kernel_rfl)) (fun _ _ _ h => h) (Or.inl ⟨by rfl, ?_⟩) hHeld ?_ ?_
                  rotate_left
                  ·rintro w' ⟨s0, s1, s2⟩
                   go_simp
                   with_reducible rfl
                  rotate_left
                  ·simp only [Act.put, List.setIfInBounds_toArray, List.set_cons_zero, List.set_cons_succ, i64_w, i32_w]
                   rfl
                  refine pure_ (i := 8) (N := some 43) (v := ?_) (a' := ?_) #[true,true,true,true,true,true,true,true,true,false,true,false,false,false,false] rfl rfl (any_of HT_.out (by kernel_rfl)) (fun _ _ _ h => h) (Or.inl ⟨by rfl, ?_⟩) ?_ ?_
                  rotate_left
                  ·intro w'
                   go_simp
                   with_reducible rfl
                  rotate_left
                  ·simp only [Act.put, List.setIfInBounds_toArray, List.set_cons_zero, List.set_cons_succ, i64_w, i32_w]
                   rfl
                  refine take_ (i := 9) (N := some 44) (v := ?_) (a' := ?_) #[true,true,true,true,true,true,true,true,true,true,true,false,false,false,false] rfl rfl (take_ofW HT_.out HW_.out (by kernel_rfl)) (fun _ _ _ h => h) (Or.inl ⟨by rfl, ?_⟩) hHeld ?_ ?_
                  rotate_left
                  ·rintro w' ⟨s0, s1, s2⟩
                   go_simp
                   with_reducible rfl
                  rotate_left
                  ·simp only [Act.put, List.setIfInBounds_toArray, List.set_cons_zero, List.set_cons_succ, i64_w, i32_w]
                   rfl
                  refine pure_ (i := 11) (N := some 46) (v := ?_) (a' := ?_) #[true,true,true,true,true,true,true,true,true,true,true,true,false,false,false] rfl rfl (any_of HT_.out (by kernel_rfl)) (fun _ _ _ h => h) (Or.inl ⟨by rfl, ?_⟩) ?_ ?_
                  rotate_left
                  ·intro w'
                   go_simp
                   with_reducible rfl
                  rotate_left
                  ·simp only [Act.put, List.setIfInBounds_toArray, List.set_cons_zero, List.set_cons_succ, i64_w, i32_w]
                   rfl
                  refine pure_ (i := 12) (N := some 47) (v := ?_) (a' := ?_) #[true,true,true,true,true,true,true,true,true,true,true,true,true,false,false] rfl rfl (any_of HT_.out (by kernel_rfl)) (fun _ _ _ h => h) (Or.inl ⟨by rfl, ?_⟩) ?_ ?_
                  rotate_left
                  ·intro w'
                   go_simp
                   with_reducible rfl
                  rotate_left
                  ·simp only [Act.put, List.setIfInBounds_toArray, List.set_cons_zero, List.set_cons_succ, i64_w, i32_w]
                   rfl
                  refine pure_ (i := 13) (N := some 48) (v := ?_) (a' := ?_) #[true,true,true,true,true,true,true,true,true,true,true,true,true,true,false] rfl rfl (any_of HT_.out (by kernel_rfl)) (fun _ _ _ h => h) (Or.inl ⟨by rfl, ?_⟩) ?_ ?_
                  rotate_left
                  ·intro w'
                   go_simp
                   with_reducible rfl
                  rotate_left
                  ·simp only [Act.put, List.setIfInBounds_toArray, List.set_cons_zero, List.set_cons_succ, i64_w, i32_w]
                   rfl
                  refine last_ (i := 14) (N := none) #[true,true,true,true,true,true,true,true,true,true,true,true,true,true,true] rfl rfl (one_of HT_.out (by kernel_rfl)) (by decide) (fun K hK => ?_)
                  refine skip_ (w1 := ?_) (by rfl) rfl ?_ ?_
                  rotate_left
                  ·go_simp
                   rfl
                  refine hK.out _ _ ?_
                  clear hK K
                  refine done_ (done_of HT_.out (by kernel_rfl)) ?_
                  try go_wp2
                  (try simp only [← hl6_2])
                  go_roundg k2
                  case measure => have := HK1.out;have := HK2.out;omega
                  case rel => exact ⟨(y185), (wrap64 (x32_2 + 1)), (by first | rfl | (simp;done) | (simp [*];done)), H', ⟨by have := HK1.out;have := HK2.out;omega⟩, ⟨by (try simp only [hl6_1]);(try simp only [hl6_2]);(with_reducible repeat (first | apply Kd.S_alloc | apply Kd.S_drewN | apply Kd.S_drew));exact HQ31.out⟩, ⟨by (try simp only [hl6_1]);(try simp only [hl6_2]);refine kP ?_;refine blk_far ?_ (by have h_ := Kd.R_ne HL181_0.out BK171.out (by decide);intro e_;exact h_ (by rw [e_];rfl)) _;exact kP BK171.out⟩, ⟨by repeat (first | (with_reducible first | exact HB.out | apply below_alloc | apply pw_below_drewN | apply below_drew1 | refine below_set ?_ GB29.out | refine below_set ?_ GE171.out) | exact HB.out)⟩⟩
                 ·rw [if_neg c28] at H
                  exact absurd H (by simp)
                ·rw [if_neg c26] at H
                 exact absurd H (by simp)
               ·rw [if_neg c25] at H
                exact absurd H (by simp)
              ·rw [if_neg c24] at H
               exact absurd H (by simp)
             ·rw [if_neg c23] at H
              exact absurd H (by simp)
            ·rw [if_neg c22] at H
             have c22b0 : decide (x32_2 < t172) = false := decide_eq_false c22
             clear c22
             by_cases c33 : 0 ≤ x23_1
             ·rw [if_pos c33] at H
              have c33b0 : decide (0 ≤ x23_1) = true := decide_eq_true c33
              clear c33
              by_cases c34 : x23_1 < (x6_2.length : Int)
              ·rw [if_pos c34] at H
               have c34b0 : decide (x23_1 < (x6_2.length : Int)) = true := decide_eq_true c34
               clear c34
               by_cases c35 : x23_1 < (l1.length : Int)
               ·rw [if_pos c35] at H
                have c35b0 : decide (x23_1 < (l1.length : Int)) = true := decide_eq_true c35
                clear c35
                by_cases c36 : x23_1 < ((rd_L2 x6_2 x23_1).length : Int)
                ·rw [if_pos c36] at H
                 have c36b0 : decide (x23_1 < ((rd_L2 x6_2 x23_1).length : Int)) = true := decide_eq_true c36
                 clear c36
                 obtain ⟨y188, hy188⟩ : ∃ y_ : List Int, y_ = ((rd_L2 x6_2 x23_1).set (x23_1 : Int).toNat (rd l1 x23_1)) := ⟨_, rfl⟩
                 replace H : (impl_net_rankWith.l0 k2 l1 t172 (x6_2.set (x23_1 : Int).toNat y188) (y173.length : Int) (wrap64 (x23_1 + 1)) l0_0) = some r := by first | (rw [hy188];with_reducible exact H) | (have H2_ := (Option.bind_some _ _).symm.trans H;rw [hy188];with_reducible exact H2_) | (have H2_ := (Option.bind_some _ _).symm.trans H;with_reducible exact H2_) | with_reducible exact H | (rw [hy188];exact H) | exact H
                 have Ny188 := Aside0.mk hy188
                 clear hy188
                 obtain ⟨y190, hy190⟩ : ∃ y_ : List (List Int), y_ = (x6_2.set (x23_1 : Int).toNat y188) := ⟨_, rfl⟩
                 replace H : (impl_net_rankWith.l0 k2 l1 t172 y190 (y173.length : Int) (wrap64 (x23_1 + 1)) l0_0) = some r := by first | (rw [hy190];with_reducible exact H) | (have H2_ := (Option.bind_some _ _).symm.trans H;rw [hy190];with_reducible exact H2_) | (have H2_ := (Option.bind_some _ _).symm.trans H;with_reducible exact H2_) | with_reducible exact H | (rw [hy190];exact H) | exact H
                 have Ny190 := Aside0.mk hy190
                 clear hy190
                 have H' := Aside0.mk H
                 clear H
                 try go_wp2
                 have n0_ := Aside0.mk (Kd.S_drew HO_6.out)
                 have n1_ := Aside0.mk (blk_drew BK171.out)
                 have n2_ := Aside0.mk (below_drew1 HB.out)
                 clear HO_6
                 clear BK171
                 clear HB
                 have HO_6 := n0_
                 have BK171 := n1_
                 have HB := n2_
                 clear n0_ n1_ n2_
                 have p186 : 0 ≤ (x23_1 : Int) := oA
                 have q186 : x23_1 < (x6_2.length : Int) := oA
                 obtain ⟨ad186, A186_0, c186_0, e186, hx186_0, hl186_0, hi186_0⟩ := at_L2 (Kd.S_reads' HO_6.out).2.2 x23_1 p186 q186
                 obtain rfl : (⟨go17, 0, none⟩ : Addr) = ad186 := (by injection e186)
                 obtain ⟨ce186, hce186, hMe186, hcc186⟩ := Kd.S_get HO_6.out [] x23_1 p186 (by first | exact q186 | exact oA | (have e_ := (Kd.S_reads' HO_6.out).1;omega))
                 obtain ⟨ve186_0, rfl, ge186_0⟩ := hMe186
                 have hv186_0 := hcc186 0 _ rfl
                 rw [Nat.add_zero, show ((Kd.slice 3 (Kd.int .i64))).sz = 1 from rfl, Nat.mul_one] at hv186_0
                 replace hv186_0 := Option.some.inj (hv186_0.symm.trans hx186_0)
                 rw [hv186_0] at ge186_0
                 have HL186_0 := Aside0.mk (show Kd.R (Kd.int .i64) 3 _ _ _ _ (rd_L2 x6_2 x23_1) from ge186_0)
                 clear hv186_0 ge186_0
                 have HX186_0 := Aside0.mk hx186_0
                 clear hcc186 hce186
                 (first | simp only [add_plain] at hx186_0 | simp only [add_at] at hx186_0 | simp only [Addr.add, Nat.zero_add] at hx186_0 | skip)
                 have HR186_0 := Aside0.mk hi186_0
                 have HC186_0 := Aside0.mk hl186_0
                 clear hi186_0 hl186_0
                 replace p186 := eq_true p186
                 replace q186 := eq_true q186
                 have p187 : 0 ≤ (x23_1 : Int) := oA
                 have q187 : x23_1 < (l1.length : Int) := oA
                 obtain ⟨ad187, e187, hx187_0⟩ := Kd.at_int HR1.out x23_1 p187 q187
                 have hw187_0 := hx187_0
                 cases e187
                 replace hx187_0 := (HB.out.cell (World.block_lt_of_cell? w _ hx187_0)).trans hx187_0
                 replace p187 := eq_true p187
                 replace q187 := eq_true q187
                 have p37 : 0 ≤ (x23_1 : Int) := oA
                 have q37 : (x23_1 : Int) < (((rd_L2 x6_2 x23_1).length : Int) : Int) := oA
                 obtain ⟨go37, co37, eo37, gb37, gl37, cl37, HG37⟩ := Kd.R_form HL186_0.out (by omega)
                 (first | cases eo37 | (injection eo37 with ea_ en_ ec_;(first | subst ea_ | (injection ea_ with ea_;subst ea_));subst ec_;clear en_))
                 have GB37 := Aside0.mk gb37
                 have GG37 := Aside0.mk HG37
                 clear gb37 gl37 HG37
                 obtain ⟨hx37_0, hf37_0⟩ := Kd.R_celln 0 HL186_0.out (x23_1 : Int) p37 q37
                 replace p37 := eq_true p37
                 replace q37 := eq_true q37
                 have hq39 : (x23_1 : Int) < (x6_2.length : Int) := (by have h_ : (x23_1 : Int) < ((x6_2.length : Int) : Int) := oA;first | exact h_ | (have e_ := (Kd.S_reads' HO_6.out).1;omega) | simpa only [List.length_set, List.length_set] using h_)
                 obtain ⟨oki39, ce39, hcl39, hM39, hcc39, hok39, hbk39⟩ := Kd.S_borrow HO_6.out [] (x23_1 : Int) (oA) hq39
                 obtain ⟨ve39_0, rfl, ge39_0⟩ := hM39
                 have hv39 := hcc39 0 _ rfl
                 rw [Nat.add_zero, show ((Kd.slice 3 (Kd.int .i64))).sz = 1 from rfl, Nat.mul_one] at hv39
                 replace hv39 := Option.some.inj (hv39.symm.trans HX186_0.out)
                 subst hv39
                 clear hcc39 hcl39
                 replace ge39_0 := (show Kd.R (Kd.int .i64) 3 _ _ _ _ (rd_L2 x6_2 x23_1) from ge39_0)
                 have HP39 := Kd.R_putg ge39_0 (x23_1 : Int) (rd l1 x23_1)
                 rw [← Ny188.out] at HP39
                 have HS39 := hbk39 HP39.2 (fun k_ e_ => by injection e_ with e_;subst e_;exact ge39_0.1 _ rfl) (x' := y188) (Kd.M_row HP39.1)
                 rw [← Ny190.out] at HS39
                 have HQ39 := Aside0.mk HS39
                 clear HP39 HS39 hbk39 hok39
                 refine start_ (n := 11) (S := fun w' => w'.cell? ⟨go17, (x23_1).toNat, none⟩ = some (.slice (some ⟨go37, 0, none⟩) (rd_L2 x6_2 x23_1).length c186_0) ∧ w'.cell? (ad187.add (x23_1).toNat) = some (.int .i64 (rd l1 x23_1))) (ds := [10]) #[false,false,false,false,false,false,false,false,false,false,false] (by kernel_rfl) rfl rfl ⟨hx186_0, ((HB.out.cell (World.block_lt_of_cell? w _ hw187_0)).trans hw187_0)⟩ (fun hHeld => ?_);refine with_tabW impl_net_rankWith.tab12 impl_net_rankWith.bits12 (fun HT_ HW_ => ?_)
                 generalize wr.drew = w38 at HO_6 BK171 HB GG37 HL186_0 HQ39 HR186_0 HX186_0 hf37_0 hx186_0 hx187_0 hx37_0 hHeld ⊢
                 refine pure_ (i := 0) (N := some 50) (v := ?_) (a' := ?_) #[true,false,false,false,false,false,false,false,false,false,false] rfl rfl (any_of HT_.out (by kernel_rfl)) (fun _ _ _ h => h) (Or.inl ⟨by rfl, ?_⟩) ?_ ?_
                 rotate_left
                 ·intro w'
                  go_simp
                  with_reducible rfl
                 rotate_left
                 ·simp only [Act.put, List.setIfInBounds_toArray, List.set_cons_zero, List.set_cons_succ, i64_w, i32_w]
                  rfl
                 refine pure_ (i := 1) (N := some 51) (v := ?_) (a' := ?_) #[true,true,false,false,false,false,false,false,false,false,false] rfl rfl (any_of HT_.out (by kernel_rfl)) (fun _ _ _ h => h) (Or.inl ⟨by rfl, ?_⟩) ?_ ?_
                 rotate_left
                 ·intro w'
                  go_simp
                  with_reducible rfl
                 rotate_left
                 ·simp only [Act.put, List.setIfInBounds_toArray, List.set_cons_zero, List.set_cons_succ, i64_w, i32_w]
                  rfl
                 refine pure_ (i := 2) (N := some 52) (v := ?_) (a' := ?_) #[true,true,true,false,false,false,false,false,false,false,false] rfl rfl (any_of HT_.out (by kernel_rfl)) (fun _ _ _ h => h) (Or.inl ⟨by rfl, ?_⟩) ?_ ?_
                 rotate_left
                 ·intro w'
                  go_simp
                  with_reducible rfl
                 rotate_left
                 ·simp only [Act.put, List.setIfInBounds_toArray, List.set_cons_zero, List.set_cons_succ, i64_w, i32_w]
                  rfl
                 refine pure_ (i := 4) (N := some 54) (v := ?_) (a' := ?_) #[true,true,true,false,true,false,false,false,false,false,false] rfl rfl (any_of HT_.out (by kernel_rfl)) (fun _ _ _ h => h) (Or.inl ⟨by rfl, ?_⟩) ?_ ?_
                 rotate_left
                 ·intro w'
                  go_simp
                  with_reducible rfl
                 rotate_left
                 ·simp only [Act.put, List.setIfInBounds_toArray, List.set_cons_zero, List.set_cons_succ, i64_w, i32_w]
                  rfl
                 refine pure_ (i := 5) (N := some 55) (v := ?_) (a' := ?_) #[true,true,true,false,true,true,false,false,false,false,false] rfl rfl (any_of HT_.out (by kernel_rfl)) (fun _ _ _ h => h) (Or.inl ⟨by rfl, ?_⟩) ?_ ?_
                 rotate_left
                 ·intro w'
                  go_simp
                  with_reducible rfl
                 rotate_left
                 ·simp only [Act.put, List.setIfInBounds_toArray, List.set_cons_zero, List.set_cons_succ, i64_w, i32_w]
                  rfl
                 refine pure_ (i := 6) (N := some 56) (v := ?_) (a' := ?_) #[true,true,true,false,true,true,true,false,false,false,false] rfl rfl (any_of HT_.out (by kernel_rfl)) (fun _ _ _ h => h) (Or.inl ⟨by rfl, ?_⟩) ?_ ?_
                 rotate_left
                 ·intro w'
                  go_simp
                  with_reducible rfl
                 rotate_left
                 ·simp only [Act.put, List.setIfInBounds_toArray, List.set_cons_zero, List.set_cons_succ, i64_w, i32_w]
                  rfl
                 refine pure_ (i := 7) (N := some 57) (v := ?_) (a' := ?_) #[true,true,true,false,true,true,true,true,false,false,false] rfl rfl (any_of HT_.out (by kernel_rfl)) (fun _ _ _ h => h) (Or.inl ⟨by rfl, ?_⟩) ?_ ?_
                 rotate_left
                 ·intro w'
                  go_simp
                  with_reducible rfl
                 rotate_left
                 ·simp only [Act.put, List.setIfInBounds_toArray, List.set_cons_zero, List.set_cons_succ, i64_w, i32_w]
                  rfl
                 refine take_ (i := 3) (N := some 53) (v := ?_) (a' := ?_) #[true,true,true,true,true,true,true,true,false,false,false] rfl rfl (take_ofW HT_.out HW_.out (by kernel_rfl)) (fun _ _ _ h => h) (Or.inl ⟨by rfl, ?_⟩) hHeld ?_ ?_
                 rotate_left
                 ·rintro w' ⟨s0, s1⟩
                  go_simp
                  with_reducible rfl
                 rotate_left
                 ·simp only [Act.put, List.setIfInBounds_toArray, List.set_cons_zero, List.set_cons_succ, i64_w, i32_w]
                  rfl
                 refine take_ (i := 8) (N := some 58) (v := ?_) (a' := ?_) #[true,true,true,true,true,true,true,true,true,false,false] rfl rfl (take_ofW HT_.out HW_.out (by kernel_rfl)) (fun _ _ _ h => h) (Or.inl ⟨by rfl, ?_⟩) hHeld ?_ ?_
                 rotate_left
                 ·rintro w' ⟨s0, s1⟩
                  go_simp
                  with_reducible rfl
                 rotate_left
                 ·simp only [Act.put, List.setIfInBounds_toArray, List.set_cons_zero, List.set_cons_succ, i64_w, i32_w]
                  rfl
                 refine pure_ (i := 9) (N := some 59) (v := ?_) (a' := ?_) #[true,true,true,true,true,true,true,true,true,true,false] rfl rfl (any_of HT_.out (by kernel_rfl)) (fun _ _ _ h => h) (Or.inl ⟨by rfl, ?_⟩) ?_ ?_
                 rotate_left
                 ·intro w'
                  go_simp
                  with_reducible rfl
                 rotate_left
                 ·simp only [Act.put, List.setIfInBounds_toArray, List.set_cons_zero, List.set_cons_succ, i64_w, i32_w]
                  rfl
                 refine last_ (i := 10) (N := none) #[true,true,true,true,true,true,true,true,true,true,true] rfl rfl (one_of HT_.out (by kernel_rfl)) (by decide) (fun K hK => ?_)
                 refine skip_ (w1 := ?_) (by rfl) rfl ?_ ?_
                 rotate_left
                 ·go_simp
                  rfl
                 refine hK.out _ _ ?_
                 clear hK K
                 refine done_ (done_of HT_.out (by kernel_rfl)) ?_
                 try go_wp2
                 (try simp only [← hl6_1, ← hl6_2])
                 go_roundg k2
                 case measure => have := HK1.out;have := HK2.out;omega
                 case rel => exact ⟨(y190), (wrap64 (x23_1 + 1)), (by first | rfl | (simp;done) | (simp [*];done)), H', ⟨by have := HK1.out;have := HK2.out;omega⟩, ⟨by (try simp only [hl6_1]);(try simp only [hl6_2]);(with_reducible repeat (first | apply Kd.S_alloc | apply Kd.S_drewN | apply Kd.S_drew));exact HQ39.out⟩, ⟨by (try simp only [hl6_1]);(try simp only [hl6_2]);refine kP ?_;refine blk_far ?_ (by have h_ := Kd.R_ne HL186_0.out BK171.out (by decide);intro e_;exact h_ (by rw [e_];rfl)) _;exact kP BK171.out⟩, ⟨by repeat (first | (with_reducible first | exact HB.out | apply below_alloc | apply pw_below_drewN | apply below_drew1 | refine below_set ?_ GB37.out | refine below_set ?_ GE171.out) | exact HB.out)⟩⟩
                ·rw [if_neg c36] at H
                 exact absurd H (by simp)
               ·rw [if_neg c35] at H
                exact absurd H (by simp)
              ·rw [if_neg c34] at H
               exact absurd H (by simp)
             ·rw [if_neg c33] at H
              exact absurd H (by simp)
         ·rw [if_neg c16] at H
          exact absurd H (by simp)
        ·rw [if_neg c15] at H
         exact absurd H (by simp)
       ·rw [if_neg c14] at H
        exact absurd H (by simp)
      ·rw [if_neg c13] at H
       exact absurd H (by simp)
     ·rw [if_neg c12] at H
      have c12b0 : decide (x23_1 < (y173.length : Int)) = false := decide_eq_false c12
      (try simp only [hl6_1] at c12b0)
      clear c12
      have H' := Aside0.mk H
      clear H
      have HOB := Aside0.mk (show Kd.S dMx 25 wr w.heap.size (fun k_ => k_ < wr.heap.size) _ _ from Kd.S_mono (Kd.S_bound HO_6.out) (fun k_ hk_ => hk_.2.2.1))
      obtain ⟨B, hBB⟩ : ∃ B : Nat, B = wr.heap.size := ⟨_, rfl⟩
      rw [← hBB] at HOB
      have HBB := Aside0.mk (Nat.le_of_eq hBB)
      clear hBB HO_6 BK171
      go_wp2
      (try simp only [hl6_1] at HOB ⊢)
      clear hl6_1 c12b0
      generalize x6_1.length = n6 at HOB ⊢
      go_loopg [9, 62] k1 (fun kq v9 v62 w' => ∃ (M1 : List (List Int)) (x9_1 : Int) (x62_1 : Int), v9 = .int .i64 x9_1 ∧ v62 = .int .i64 x62_1 ∧ Aside0 (rankB.b0 kq M1 t172 x9_1 x62_1 = some r) ∧ Aside0 (kq ≤ k1) ∧ Aside0 (Kd.S dMx 25 w' w.heap.size (fun k_ => k_ < B) (.slice Ao11 n6 co11) M1) ∧ Aside0 (B ≤ w'.heap.size) ∧ Aside0 (Below w.heap.size w w'))
      case atStart => exact ⟨_, _, _, rfl, rfl, H', ⟨Nat.le_refl _⟩, HOB, HBB, HB⟩
      case round =>
       clear H' HOB HBB HB
       obtain ⟨M1, x9_1, x62_1, rfl, rfl, HA, HKb1, HO1, HBB, HB⟩ := hrel
       cases gk with
       | zero => exact absurd HA.out (by simp [rankB.b0])
       | succ k2 =>
        have H := HA.out
        clear HA
        simp only [rankB.b0] at H
        have HN := Aside0.mk (Kd.S_reads' HO1.out).1
        rw [← HN.out] at H
        by_cases c1 : x62_1 < t172
        ·rw [if_pos c1] at H
         have c1b0 : decide (x62_1 < t172) = true := decide_eq_true c1
         by_cases c2 : 0 ≤ x9_1 ∧ x9_1 < (n6 : Int)
         ·rw [if_pos c2] at H
          obtain ⟨t5, A50, H⟩ := Option.bind_eq_some_iff.mp H
          have A5 := Aside0.mk A50
          have HC2 := Aside0.mk H
          clear H A50
          obtain ⟨p2, q2⟩ := c2
          have hcap := (Kd.S_reads' HO1.out).2.1
          obtain ⟨g, cap, eg, hgb, hgl, _⟩ := Kd.S_form HO1.out (by have := HN.out;omega)
          rw [← HN.out] at eg
          injection eg with eg1 _ eg2
          subst eg1
          subst eg2
          have hne : ¬ co11 = x9_1.toNat := by omega
          have hC := Kd.C_drop (m := x9_1.toNat) (Kd.S_reads' HO1.out).2.2 (by have := HN.out;omega) (HN.out ▸ hcap)
          rw [if_neg hne] at hC
          have hIx : ∀ W : World, Below wr.heap.size wr W → W.cell? ⟨wr.heap.size, 0, none⟩ = some (.int .i64 x62_1) → Calls Try.prog 68 #[.slice (some ⟨g, x9_1.toNat, none⟩) (n6 - x9_1.toNat) (co11 - x9_1.toNat), .func (.func 69) #[] #[.pointer (some ⟨wr.heap.size, 0, none⟩)]] W fun e w' => e = .returned (.int .i64 t5) ∧ Below W.heap.size W w' := by
           intro W hW hc
           have hCW := Kd.C_below hC hW
           have h9 := indexRows_calls 69 #[.pointer (some ⟨wr.heap.size, 0, none⟩)] (enters_of Try.func69 (by kernel_rfl) rfl) (rankP x62_1) _ (co11 - x9_1.toNat) (M1.drop x9_1.toNat) W hCW t5 A5.out (fun x A' c' b W2 hq hb hR hc' => rankP_fn wr.heap.size A' c' x x62_1 b W2 ((hb.cell (World.block_lt_of_cell? _ _ hc)).trans hc) hR hq)
           have e1 : (M1.drop x9_1.toNat).length = n6 - x9_1.toNat := by rw [List.length_drop, ← HN.out]
           rw [e1, show dMx.sz = 1 from rfl] at h9
           have h10 : Option.map (fun x : Addr => x.add (x9_1.toNat * 1)) (some (⟨g, 0, none⟩ : Addr)) = some ⟨g, x9_1.toNat, none⟩ := by
            rw [Nat.mul_one]
            show some (Addr.add ⟨g, 0, none⟩ x9_1.toNat) = _
            first | rw [add_plain] | rw [add_at, Nat.zero_add]
           rw [h10] at h9
           with_reducible exact h9
          have HIx := Aside0.mk hIx
          clear hIx hC
          have hnf : (co11 = x9_1.toNat) = False := eq_false hne
          have hlt2 : x9_1.toNat ≤ n6 := by omega
          have H := HC2.out
          clear HC2 A5
          by_cases c3 : t5 < 0
          ·rw [if_pos c3] at H
           have c3b0 : decide (t5 < 0) = true := decide_eq_true c3
           have H' := Aside0.mk H
           clear H c3
           go_wp2_with (first | (go_at_call 68;refine (HIx.out (wr.alloc (.cells #[.int .i64 x62_1] 3)) (below_alloc (Below.refl _ _) _) ((blk_cell (blk_new _ _) 0).trans rfl)).mono ?_;rintro e w6 ⟨rfl, hb6⟩))
           have HO2 := Aside0.mk (Kd.S_below (Kd.S_alloc HO1.out _) hb6)
           have HB2 := Aside0.mk (below_step (below_alloc HB.out _) hb6)
           have HBB2 := Aside0.mk (Nat.le_trans HBB.out (Nat.le_trans (below_size (below_alloc (Below.refl wr.heap.size wr) _)) (below_size hb6)))
           go_roundg k2
           case measure => have := HK1.out;have := HKb1.out;omega
           case rel => exact ⟨M1, x9_1, _, rfl, rfl, H', ⟨by have := HK1.out;have := HKb1.out;omega⟩, HO2, HBB2, HB2⟩
          ·rw [if_neg c3] at H
           have c3b0 : decide (t5 < 0) = false := decide_eq_false c3
           clear c3
           obtain ⟨j, hj⟩ : ∃ j : Int, wrap64 (x9_1 + t5) = j := ⟨_, rfl⟩
           rw [hj] at H
           by_cases c4 : ((0 ≤ x9_1 ∧ x9_1 < (n6 : Int)) ∧ (0 ≤ j ∧ j < (n6 : Int))) ∧ ((0 ≤ x62_1 ∧ x62_1 < ((rd_L2 M1 j).length : Int)) ∧ 0 < (rd_L2 M1 x9_1).length)
           ·rw [if_pos c4] at H
            obtain ⟨u5, A60, H⟩ := Option.bind_eq_some_iff.mp H
            have A6 := Aside0.mk A60
            clear A60
            by_cases c5 : 0 ≤ wrap64 (x9_1 + 1) ∧ wrap64 (x9_1 + 1) ≤ (n6 : Int)
            ·rw [if_pos c5] at H
             have H' := Aside0.mk H
             clear H
             obtain ⟨⟨_, ⟨p3, q3⟩⟩, ⟨p4, q4⟩, q5⟩ := c4
             have PQ := Aside0.mk (And.intro (And.intro p3 q3) (And.intro (And.intro p4 q4) q5))
             have PQ2 := Aside0.mk (And.intro p2 q2)
             have HJ := Aside0.mk hj
             have HC5 := Aside0.mk c5
             clear p3 q3 p4 q4 q5 c5 hj
             go_wp2_with (first | (go_at_call 68;refine (HIx.out (wr.alloc (.cells #[.int .i64 x62_1] 3)) (below_alloc (Below.refl _ _) _) ((blk_cell (blk_new _ _) 0).trans rfl)).mono ?_;rintro e w6 ⟨rfl, hb6⟩;have HGC := Aside0.mk (show w6.cell? ⟨wr.heap.size, 0, none⟩ = some (.int .i64 x62_1) from (hb6.cell (World.block_lt_of_cell? _ _ ((blk_cell (blk_new _ _) 0).trans rfl))).trans ((blk_cell (blk_new _ _) 0).trans rfl));have HO2 := Aside0.mk (Kd.S_below (Kd.S_alloc HO1.out _) hb6);have HB2 := Aside0.mk (below_step (below_alloc HB.out _) hb6);have HBB2 := Aside0.mk (Nat.le_trans HBB.out (Nat.le_trans (below_size (below_alloc (Below.refl wr.heap.size wr) _)) (below_size hb6)));clear hb6))
             have HBW := Aside0.mk HBB.out
             clear HIx hnf hlt2 HO1 HB HBB
             have hj := HJ.out
             subst hj
             obtain ⟨⟨p3, q3⟩, ⟨p4, q4⟩, q5⟩ := PQ.out
             have HO3 := Aside0.mk (Kd.S_drew HO2.out)
             have HB3 := Aside0.mk (below_drew1 HB2.out)
             have HBB3 := Aside0.mk (show B ≤ w6.drew.heap.size from HBB2.out)
             have HGC3 := Aside0.mk (show w6.drew.cell? ⟨wr.heap.size, 0, none⟩ = some (.int .i64 x62_1) from HGC.out)
             obtain ⟨gj, cj, hxj, hgj, hoj, _, _, hcj, _⟩ := mx_row HO3.out (wrap64 (x9_1 + t5)) p3 q3 (show 0 < (rd_L2 M1 (wrap64 (x9_1 + t5))).length by omega)
             obtain ⟨gr, cr, hxr, hgr, _, _, _, _, _⟩ := mx_row HO3.out x9_1 p2 q2 q5
             have hf1 := mx_thaw HO3.out x9_1 p2 q2
             have hf2 := mx_thaw HO3.out (wrap64 (x9_1 + t5)) p3 q3
             have hxc := (hcj x62_1 p4 q4).1
             have hx2 := mx_second (W := w6.drew) (g := g) (i := x9_1.toNat) (j := (wrap64 (x9_1 + t5)).toNat) (v := .slice (some ⟨gj, 0, none⟩) (rd_L2 M1 (wrap64 (x9_1 + t5))).length cj) (by rw [hxr];rfl) hxj
             have HS := Aside0.mk (mx_swap HO3.out x9_1 (wrap64 (x9_1 + t5)) p2 q2 p3 q3 hxr hxj)
             have HX0 := Aside0.mk (World.cell?_setCell_same' (w6.drew.setCell ⟨g, x9_1.toNat, none⟩ (.slice (some ⟨gj, 0, none⟩) (rd_L2 M1 (wrap64 (x9_1 + t5))).length cj)) ⟨g, (wrap64 (x9_1 + t5)).toNat, none⟩ (.slice (some ⟨gr, 0, none⟩) (rd_L2 M1 x9_1).length cr) (by rw [hx2];rfl))
             have HGE := Aside0.mk hgb
             have HOJ := Aside0.mk (And.intro hgj hoj)
             clear hcj HO2 HB2 HBB2 HGC HO3
             replace p2 := eq_true p2
             replace q2 := eq_true q2
             replace p3 := eq_true p3
             replace q3 := eq_true q3
             replace p4 := eq_true p4
             replace q4 := eq_true q4
             refine start_ (n := 20) (S := fun w' => w'.cell? ⟨g, (wrap64 (x9_1 + t5)).toNat, none⟩ = some (.slice (some ⟨gj, 0, none⟩) (rd_L2 M1 (wrap64 (x9_1 + t5))).length cj) ∧ w'.cell? ⟨g, x9_1.toNat, none⟩ = some (.slice (some ⟨gr, 0, none⟩) (rd_L2 M1 x9_1).length cr)) (ds := [17, 19]) #[false,false,false,false,false,false,false,false,false,false,false,false,false,false,false,false,false,false,false,false] (by kernel_rfl) rfl rfl ⟨hxj, hxr⟩ (fun hHeld => ?_);refine with_tabW rankB.tab20 rankB.bits20 (fun HT_ HW_ => ?_)
             generalize w6.drew = w7 at HB3 HBB3 HGC3 hxj hxr hf1 hf2 hxc hx2 HS HX0 hHeld ⊢
             refine pure_ (i := 0) (N := some 72) (v := ?_) (a' := ?_) #[true,false,false,false,false,false,false,false,false,false,false,false,false,false,false,false,false,false,false,false] rfl rfl (any_of HT_.out (by kernel_rfl)) (fun _ _ _ h => h) (Or.inl ⟨by rfl, ?_⟩) ?_ ?_
             rotate_left
             ·intro w'
              go_simp
              with_reducible rfl
             rotate_left
             ·simp only [Act.put, List.setIfInBounds_toArray, List.set_cons_zero, List.set_cons_succ, i64_w, i32_w]
              rfl
             refine pure_ (i := 1) (N := some 73) (v := ?_) (a' := ?_) #[true,true,false,false,false,false,false,false,false,false,false,false,false,false,false,false,false,false,false,false] rfl rfl (any_of HT_.out (by kernel_rfl)) (fun _ _ _ h => h) (Or.inl ⟨by rfl, ?_⟩) ?_ ?_
             rotate_left
             ·intro w'
              go_simp
              with_reducible rfl
             rotate_left
             ·simp only [Act.put, List.setIfInBounds_toArray, List.set_cons_zero, List.set_cons_succ, i64_w, i32_w]
              rfl
             refine pure_ (i := 2) (N := some 74) (v := ?_) (a' := ?_) #[true,true,true,false,false,false,false,false,false,false,false,false,false,false,false,false,false,false,false,false] rfl rfl (any_of HT_.out (by kernel_rfl)) (fun _ _ _ h => h) (Or.inl ⟨by rfl, ?_⟩) ?_ ?_
             rotate_left
             ·intro w'
              go_simp
              with_reducible rfl
             rotate_left
             ·simp only [Act.put, List.setIfInBounds_toArray, List.set_cons_zero, List.set_cons_succ, i64_w, i32_w]
              rfl
             refine pure_ (i := 3) (N := some 75) (v := ?_) (a' := ?_) #[true,true,true,true,false,false,false,false,false,false,false,false,false,false,false,false,false,false,false,false] rfl rfl (any_of HT_.out (by kernel_rfl)) (fun _ _ _ h => h) (Or.inl ⟨by rfl, ?_⟩) ?_ ?_
             rotate_left
             ·intro w'
              go_simp
              with_reducible rfl
             rotate_left
             ·simp only [Act.put, List.setIfInBounds_toArray, List.set_cons_zero, List.set_cons_succ, i64_w, i32_w]
              rfl
             refine pure_ (i := 4) (N := some 76) (v := ?_) (a' := ?_) #[true,true,true,true,true,false,false,false,false,false,false,false,false,false,false,false,false,false,false,false] rfl rfl (any_of HT_.out (by kernel_rfl)) (fun _ _ _ h => h) (Or.inl ⟨by rfl, ?_⟩) ?_ ?_
             rotate_left
             ·intro w'
              go_simp
              with_reducible rfl
             rotate_left
             ·simp only [Act.put, List.setIfInBounds_toArray, List.set_cons_zero, List.set_cons_succ, i64_w, i32_w]
              rfl
             refine pure_ (i := 5) (N := some 77) (v := ?_) (a' := ?_) #[true,true,true,true,true,true,false,false,false,false,false,false,false,false,false,false,false,false,false,false] rfl rfl (any_of HT_.out (by kernel_rfl)) (fun _ _ _ h => h) (Or.inl ⟨by rfl, ?_⟩) ?_ ?_
             rotate_left
             ·intro w'
              go_simp
              with_reducible rfl
             rotate_left
             ·simp only [Act.put, List.setIfInBounds_toArray, List.set_cons_zero, List.set_cons_succ, i64_w, i32_w]
              rfl
             refine pure_ (i := 6) (N := some 78) (v := ?_) (a' := ?_) #[true,true,true,true,true,true,true,false,false,false,false,false,false,false,false,false,false,false,false,false] rfl rfl (any_of HT_.out (by kernel_rfl)) (fun _ _ _ h => h) (Or.inl ⟨by rfl, ?_⟩) ?_ ?_
             rotate_left
             ·intro w'
              go_simp
              with_reducible rfl
             rotate_left
             ·simp only [Act.put, List.setIfInBounds_toArray, List.set_cons_zero, List.set_cons_succ, i64_w, i32_w]
              rfl
             refine pure_ (i := 7) (N := some 79) (v := ?_) (a' := ?_) #[true,true,true,true,true,true,true,true,false,false,false,false,false,false,false,false,false,false,false,false] rfl rfl (any_of HT_.out (by kernel_rfl)) (fun _ _ _ h => h) (Or.inl ⟨by rfl, ?_⟩) ?_ ?_
             rotate_left
             ·intro w'
              go_simp
              with_reducible rfl
             rotate_left
             ·simp only [Act.put, List.setIfInBounds_toArray, List.set_cons_zero, List.set_cons_succ, i64_w, i32_w]
              rfl
             refine pure_ (i := 8) (N := some 80) (v := ?_) (a' := ?_) #[true,true,true,true,true,true,true,true,true,false,false,false,false,false,false,false,false,false,false,false] rfl rfl (any_of HT_.out (by kernel_rfl)) (fun _ _ _ h => h) (Or.inl ⟨by rfl, ?_⟩) ?_ ?_
             rotate_left
             ·intro w'
              go_simp
              with_reducible rfl
             rotate_left
             ·simp only [Act.put, List.setIfInBounds_toArray, List.set_cons_zero, List.set_cons_succ, i64_w, i32_w]
              rfl
             refine pure_ (i := 9) (N := some 81) (v := ?_) (a' := ?_) #[true,true,true,true,true,true,true,true,true,true,false,false,false,false,false,false,false,false,false,false] rfl rfl (any_of HT_.out (by kernel_rfl)) (fun _ _ _ h => h) (Or.inl ⟨by rfl, ?_⟩) ?_ ?_
             rotate_left
             ·intro w'
              go_simp
              with_reducible rfl
             rotate_left
             ·simp only [Act.put, List.setIfInBounds_toArray, List.set_cons_zero, List.set_cons_succ, i64_w, i32_w]
              rfl
             refine pure_ (i := 10) (N := some 82) (v := ?_) (a' := ?_) #[true,true,true,true,true,true,true,true,true,true,true,false,false,false,false,false,false,false,false,false] rfl rfl (any_of HT_.out (by kernel_rfl)) (fun _ _ _ h => h) (Or.inl ⟨by rfl, ?_⟩) ?_ ?_
             rotate_left
             ·intro w'
              go_simp
              with_reducible rfl
             rotate_left
             ·simp only [Act.put, List.setIfInBounds_toArray, List.set_cons_zero, List.set_cons_succ, i64_w, i32_w]
              rfl
             refine take_ (i := 11) (N := some 83) (v := ?_) (a' := ?_) #[true,true,true,true,true,true,true,true,true,true,true,true,false,false,false,false,false,false,false,false] rfl rfl (take_ofW HT_.out HW_.out (by kernel_rfl)) (fun _ _ _ h => h) (Or.inl ⟨by rfl, ?_⟩) hHeld ?_ ?_
             rotate_left
             ·rintro w' ⟨s0, s1⟩
              go_simp
              with_reducible rfl
             rotate_left
             ·simp only [Act.put, List.setIfInBounds_toArray, List.set_cons_zero, List.set_cons_succ, i64_w, i32_w]
              rfl
             refine pure_ (i := 12) (N := some 84) (v := ?_) (a' := ?_) #[true,true,true,true,true,true,true,true,true,true,true,true,true,false,false,false,false,false,false,false] rfl rfl (any_of HT_.out (by kernel_rfl)) (fun _ _ _ h => h) (Or.inl ⟨by rfl, ?_⟩) ?_ ?_
             rotate_left
             ·intro w'
              go_simp
              with_reducible rfl
             rotate_left
             ·simp only [Act.put, List.setIfInBounds_toArray, List.set_cons_zero, List.set_cons_succ, i64_w, i32_w]
              rfl
             refine pure_ (i := 13) (N := some 85) (v := ?_) (a' := ?_) #[true,true,true,true,true,true,true,true,true,true,true,true,true,true,false,false,false,false,false,false] rfl rfl (any_of HT_.out (by kernel_rfl)) (fun _ _ _ h => h) (Or.inl ⟨by rfl, ?_⟩) ?_ ?_
             rotate_left
             ·intro w'
              go_simp
              with_reducible rfl
             rotate_left
             ·simp only [Act.put, List.setIfInBounds_toArray, List.set_cons_zero, List.set_cons_succ, i64_w, i32_w]
              rfl
             refine pure_ (i := 14) (N := some 86) (v := ?_) (a' := ?_) #[true,true,true,true,true,true,true,true,true,true,true,true,true,true,true,false,false,false,false,false] rfl rfl (any_of HT_.out (by kernel_rfl)) (fun _ _ _ h => h) (Or.inl ⟨by rfl, ?_⟩) ?_ ?_
             rotate_left
             ·intro w'
              go_simp
              with_reducible rfl
             rotate_left
             ·simp only [Act.put, List.setIfInBounds_toArray, List.set_cons_zero, List.set_cons_succ, i64_w, i32_w]
              rfl
             refine take_ (i := 15) (N := some 87) (v := ?_) (a' := ?_) #[true,true,true,true,true,true,true,true,true,true,true,true,true,true,true,true,false,false,false,false] rfl rfl (take_ofW HT_.out HW_.out (by kernel_rfl)) (fun _ _ _ h => h) (Or.inl ⟨by rfl, ?_⟩) hHeld ?_ ?_
             rotate_left
             ·rintro w' ⟨s0, s1⟩
              go_simp
              with_reducible rfl
             rotate_left
             ·simp only [Act.put, List.setIfInBounds_toArray, List.set_cons_zero, List.set_cons_succ, i64_w, i32_w]
              rfl
             refine pure_ (i := 16) (N := some 88) (v := ?_) (a' := ?_) #[true,true,true,true,true,true,true,true,true,true,true,true,true,true,true,true,true,false,false,false] rfl rfl (any_of HT_.out (by kernel_rfl)) (fun _ _ _ h => h) (Or.inl ⟨by rfl, ?_⟩) ?_ ?_
             rotate_left
             ·intro w'
              go_simp
              with_reducible rfl
             rotate_left
             ·simp only [Act.put, List.setIfInBounds_toArray, List.set_cons_zero, List.set_cons_succ, i64_w, i32_w]
              rfl
             refine last_ (i := 17) (N := none) #[true,true,true,true,true,true,true,true,true,true,true,true,true,true,true,true,true,true,false,false] rfl rfl (one_of HT_.out (by kernel_rfl)) (by decide) (fun K hK => ?_)
             refine skip_ (w1 := ?_) (by rfl) rfl ?_ ?_
             rotate_left
             ·go_simp
              rfl
             refine hK.out _ _ ?_
             clear hK K
             refine pure_ (i := 18) (N := some 89) (v := ?_) (a' := ?_) #[true,true,true,true,true,true,true,true,true,true,true,true,true,true,true,true,true,true,true,false] rfl rfl (any_of HT_.out (by kernel_rfl)) (fun _ _ _ h => h) (Or.inl ⟨by rfl, ?_⟩) ?_ ?_
             rotate_left
             ·intro w'
              go_simp
              with_reducible rfl
             rotate_left
             ·simp only [Act.put, List.setIfInBounds_toArray, List.set_cons_zero, List.set_cons_succ, i64_w, i32_w]
              rfl
             refine last_ (i := 19) (N := none) #[true,true,true,true,true,true,true,true,true,true,true,true,true,true,true,true,true,true,true,true] rfl rfl (one_of HT_.out (by kernel_rfl)) (by decide) (fun K hK => ?_)
             refine skip_ (w1 := ?_) (by rfl) rfl ?_ ?_
             rotate_left
             ·go_simp
              rfl
             refine hK.out _ _ ?_
             clear hK K
             refine done_ (done_of HT_.out (by kernel_rfl)) ?_
             clear hHeld hx2 HX0 hxj hxr hf1 hf2 hxc HT_ HW_ HOJ
             have HGL := Aside0.mk hgl
             have HS4 := Aside0.mk HS.out.1
             have HB4 := Aside0.mk (below_set (v := .slice (some ⟨gr, 0, none⟩) (rd_L2 M1 x9_1).length cr) (j := (wrap64 (x9_1 + t5)).toNat) (below_set (v := .slice (some ⟨gj, 0, none⟩) (rd_L2 M1 (wrap64 (x9_1 + t5))).length cj) (j := x9_1.toNat) HB3.out HGE.out) HGE.out)
             have HBB4 := Aside0.mk (Nat.le_trans HBB3.out HS.out.2.size)
             have HGC4 := Aside0.mk (show ((w7.setCell ⟨g, x9_1.toNat, none⟩ (.slice (some ⟨gj, 0, none⟩) (rd_L2 M1 (wrap64 (x9_1 + t5))).length cj)).setCell ⟨g, (wrap64 (x9_1 + t5)).toNat, none⟩ (.slice (some ⟨gr, 0, none⟩) (rd_L2 M1 x9_1).length cr)).cell? ⟨wr.heap.size, 0, none⟩ = some (.int .i64 x62_1) from by
              rw [World.cell?_setCell_other (h := fun e => by injection e with e;exact absurd HGL.out (by omega)), World.cell?_setCell_other (h := fun e => by injection e with e;exact absurd HGL.out (by omega))]
              exact HGC3.out)
             clear HS HB3 HBB3 HGC3 HGE
             generalize (w7.setCell ⟨g, x9_1.toNat, none⟩ (.slice (some ⟨gj, 0, none⟩) (rd_L2 M1 (wrap64 (x9_1 + t5))).length cj)).setCell ⟨g, (wrap64 (x9_1 + t5)).toNat, none⟩ (.slice (some ⟨gr, 0, none⟩) (rd_L2 M1 x9_1).length cr) = w8 at HS4 HB4 HBB4 HGC4 ⊢
             have hnat : (n6 : Int) = (M1.length : Int) := by have := HN.out;omega
             have esw := swapM_fst M1 x9_1 (wrap64 (x9_1 + t5)) (of_eq_true p2) (hnat ▸ of_eq_true q2) (of_eq_true p3) (hnat ▸ of_eq_true q3)
             obtain ⟨gi, ci, hxi, hgi, _, _, _, hci, _⟩ := mx_row HS4.out x9_1 (of_eq_true p2) (of_eq_true q2) (by rw [esw];have := of_eq_true p4;have := of_eq_true q4;omega)
             rw [esw] at hxi hci
             have hxc := (hci x62_1 (of_eq_true p4) (of_eq_true q4)).1
             have hgc := HGC4.out
             have HXI := Aside0.mk hxi
             have HIV := fun W => Aside0.mk (impl_inverseOf.calls k2 (rd (rd_L2 M1 (wrap64 (x9_1 + t5))) x62_1) u5 W A6.out)
             clear hci esw hnat hgl A6
             go_wp2
             go_quiet (first | (go_at_call 70;refine (HIV _).out.mono ?_;rintro e w' ⟨rfl, ⟨nd2, rfl⟩⟩;exact ⟨rfl, _, World.drewN_drewN _ _ _⟩))
             have HS5 := Aside0.mk (Kd.S_drewN HS4.out nq)
             have HB5 := Aside0.mk (pw_below_drewN HB4.out nq)
             have HBB5 := Aside0.mk (show B ≤ (w8.drewN nq).heap.size from HBB4.out)
             have HGC5 := Aside0.mk (show (w8.drewN nq).cell? ⟨wr.heap.size, 0, none⟩ = some (.int .i64 x62_1) from HGC4.out)
             clear HS4 HB4 HBB4 HGC4 HIV hxi hxc hgc hgi HXI PQ PQ2 HJ p3 q3 p4 q4
             generalize w8.drewN nq = w9 at HS5 HB5 HBB5 HGC5 ⊢
             generalize wr.heap.size = bx at HGC5 HBW HGL ⊢
             have hc5 := HC5.out
             obtain ⟨p5, q5⟩ := hc5
             have hlt3 : (wrap64 (x9_1 + 1)).toNat ≤ n6 := by omega
             have hcc : n6 ≤ co11 := hcap
             have HCC := Aside0.mk hcc
             generalize hj1 : wrap64 (x9_1 + 1) = j1 at p5 q5 hlt3 H' ⊢
             have HP5 := Aside0.mk p5
             have HJ1 := Aside0.mk hj1
             replace p5 := eq_true p5
             replace q5 := eq_true q5
             clear HC5 hcap
             by_cases hz : co11 = j1.toNat
             ·have hz' := eq_true hz
              have hjn : (n6 : Int) = j1 := by have := of_eq_true p5;have := of_eq_true q5;omega
              have HJN := Aside0.mk hjn
              clear hz hjn
              go_wp2
              clear hj1
              go_loopg [103] k2 (fun kq v103 w' => ∃ (x103_2 : Int), v103 = .int .i64 x103_2 ∧ Aside0 (x103_2 = 0) ∧ Aside0 (Kd.S dMx 25 w' w.heap.size (fun k_ => k_ < B) (.slice (some ⟨g, 0, none⟩) n6 co11) (swapM M1 x9_1 (wrap64 (x9_1 + t5)))) ∧ Aside0 (B ≤ w'.heap.size) ∧ Aside0 (Below w.heap.size w w'))
              case atStart => exact ⟨0, rfl, ⟨rfl⟩, HS5, HBB5, HB5⟩
              case round =>
               clear HS5 HBB5 HB5 HGC5
               obtain ⟨x103_2, rfl, HZ, HS2, HBB2, HB2⟩ := hrel
               have hzz := HZ.out
               subst hzz
               cases k2 with
               | zero => exact absurd H'.out (by simp [rankB.b1])
               | succ k3 =>
                have H := H'.out
                clear H'
                simp only [rankB.b1] at H
                have HN2 := Aside0.mk (Kd.S_reads' HS2.out).1
                rw [← HN2.out, HJ1.out, if_neg (by have := HJN.out;omega)] at H
                have hsub : n6 - j1.toNat = 0 := by have := HJN.out;omega
                have H' := Aside0.mk H
                clear H
                have hsd : decide ((0 : Int) < ((n6 - j1.toNat : Nat) : Int)) = false := by rw [hsub];rfl
                go_wp2
                try rw [HJ1.out]
                go_roundg k3
                case measure => have := HK1.out;have := HKb1.out;omega
                case rel => exact ⟨_, _, _, rfl, rfl, H', ⟨by have := HK1.out;have := HKb1.out;omega⟩, HS2, HBB2, HB2⟩
             have hz' := eq_false hz
             clear hz
             go_wp2
             clear hj1
             go_loopg [103] k2 (fun kq v103 w' => ∃ (M2 : List (List Int)) (x103_2 : Int), v103 = .int .i64 x103_2 ∧ Aside0 (rankB.b1 kq M2 t172 x9_1 x62_1 u5 x103_2 = some r) ∧ Aside0 (kq ≤ k2) ∧ Aside0 (Kd.S dMx 25 w' w.heap.size (fun k_ => k_ < B) (.slice (some ⟨g, 0, none⟩) n6 co11) M2) ∧ Aside0 (B ≤ w'.heap.size) ∧ Aside0 (w'.cell? ⟨bx, 0, none⟩ = some (.int .i64 x62_1)) ∧ Aside0 (Below w.heap.size w w'))
             case atStart => exact ⟨_, _, rfl, H', ⟨Nat.le_refl _⟩, HS5, HBB5, HGC5, HB5⟩
             case round =>
              clear H' HS5 HBB5 HB5 HGC5
              obtain ⟨M2, x103_2, rfl, HA, HK2, HS2, HBB2, HGC2, HB2⟩ := hrel
              cases gk with
              | zero => exact absurd HA.out (by simp [rankB.b1])
              | succ k3 =>
               have H := HA.out
               clear HA
               simp only [rankB.b1] at H
               have HN2 := Aside0.mk (Kd.S_reads' HS2.out).1
               rw [← HN2.out, HJ1.out] at H
               by_cases c6 : x103_2 < (n6 : Int) - j1
               ·rw [if_pos c6] at H
                have c6b0 : decide (x103_2 < ((n6 - j1.toNat : Nat) : Int)) = true := decide_eq_true (by have := HP5.out;omega)
                by_cases c7 : 0 ≤ x103_2 ∧ (0 ≤ x62_1 ∧ x62_1 < ((rd_L2 M2 (j1 + x103_2)).length : Int))
                ·rw [if_pos c7] at H
                 have H' := Aside0.mk H
                 clear H
                 obtain ⟨p1, p3, q3⟩ := c7
                 have q1 : x103_2 < ((n6 - j1.toNat : Nat) : Int) := by have := HP5.out;omega
                 have hp6 : 0 ≤ j1 + x103_2 := by have := HP5.out;omega
                 have hq6 : j1 + x103_2 < (n6 : Int) := by omega
                 have e6 : (j1 + x103_2).toNat = j1.toNat + x103_2.toNat := by have := HP5.out;omega
                 obtain ⟨gm, ck, hxk, hgk, _, _, _, hck, _⟩ := mx_row HS2.out (j1 + x103_2) hp6 hq6 (by omega)
                 have hxc := (hck x62_1 p3 q3).1
                 have HXK := Aside0.mk hxk
                 have HE6 := Aside0.mk e6
                 have HQ6 := Aside0.mk (And.intro hp6 hq6)
                 rw [e6] at hxk
                 have hgc := HGC2.out
                 clear hck hp6 hq6 e6 c6
                 replace p1 := eq_true p1
                 replace q1 := eq_true q1
                 replace p3 := eq_true p3
                 replace q3 := eq_true q3
                 go_wp2
                 clear hxk hxc hgk p1 p3 q3 q1 c6b0 hgc
                 generalize Int.tmod (wrap64 (rd (rd_L2 M2 (j1 + x103_2)) x62_1 * u5)) 10007 = x15 at H' ⊢
                 generalize (rd_L2 M2 (j1 + x103_2)).length = L at H' HXK ⊢
                 go_loopg [116] k3 (fun kq v116 w' => ∃ (M3 : List (List Int)) (x116_3 : Int), v116 = .int .i64 x116_3 ∧ Aside0 (rankB.b2 kq M3 t172 x9_1 x62_1 u5 x103_2 x15 (L : Int) x116_3 = some r) ∧ Aside0 (kq ≤ k3) ∧ Aside0 (Kd.S dMx 25 w' w.heap.size (fun k_ => k_ < B) (.slice (some ⟨g, 0, none⟩) n6 co11) M3) ∧ Aside0 (w'.cell? ⟨g, (j1 + x103_2).toNat, none⟩ = some (.slice (some ⟨gm, 0, none⟩) L ck)) ∧ Aside0 (B ≤ w'.heap.size) ∧ Aside0 (w'.cell? ⟨bx, 0, none⟩ = some (.int .i64 x62_1)) ∧ Aside0 (Below w.heap.size w w'))
                 case atStart => exact ⟨_, _, rfl, H', ⟨Nat.le_refl _⟩, HS2, HXK, HBB2, HGC2, HB2⟩
                 case round =>
                  clear H' HS2 HXK HBB2 HGC2 HB2 HN2
                  obtain ⟨M3, x116_3, rfl, HA, HK3, HS3, HX3, HBB3, HGC3, HB3⟩ := hrel
                  cases gk with
                  | zero => exact absurd HA.out (by simp [rankB.b2])
                  | succ k4 =>
                   have H := HA.out
                   clear HA
                   simp only [rankB.b2] at H
                   have HN3 := Aside0.mk (Kd.S_reads' HS3.out).1
                   rw [← HN3.out, HJ1.out] at H
                   by_cases c8 : x116_3 < (L : Int)
                   ·rw [if_pos c8] at H
                    have c8b0 : decide (x116_3 < (L : Int)) = true := decide_eq_true c8
                    by_cases c9 : ((0 ≤ j1 + x103_2 ∧ j1 + x103_2 < (n6 : Int)) ∧ (0 ≤ x9_1 ∧ x9_1 < (n6 : Int))) ∧ (0 ≤ x116_3 ∧ (x116_3 < ((rd_L2 M3 (j1 + x103_2)).length : Int) ∧ x116_3 < ((rd_L2 M3 x9_1).length : Int)))
                    ·rw [if_pos c9] at H
                     have H' := Aside0.mk H
                     clear H
                     obtain ⟨⟨⟨p1, q1⟩, ⟨_, _⟩⟩, p3, q3, q4⟩ := c9
                     obtain ⟨gk2, ck2, hxk, hgk, hok, hbk, hlk, hck, hput⟩ := mx_row HS3.out (j1 + x103_2) p1 q1 (by omega)
                     obtain ⟨gr2, cr2, hxr, hgr2, _, _, _, hcr, _⟩ := mx_row HS3.out x9_1 (of_eq_true p2) (of_eq_true q2) (by omega)
                     have hee := hxk.symm.trans HX3.out
                     injection hee with hee
                     injection hee with e1 e2 e3
                     injection e1 with e1
                     injection e1 with e1
                     subst e1
                     subst e3
                     obtain ⟨hy1, hf1⟩ := hck x116_3 p3 q3
                     have hy2 := (hcr x116_3 p3 q4).1
                     generalize rd (rd_L2 M3 (j1 + x103_2)) x116_3 = ya at H' hy1
                     generalize rd (rd_L2 M3 x9_1) x116_3 = yb at H' hy2
                     have HS4 := Aside0.mk (Kd.S_drew (hput x116_3 (fieldOf ya x15 yb)).1)
                     have HX4 := Aside0.mk ((World.cell?_setCell_other (w := wr) (a := ⟨gk2, x116_3.toNat, none⟩) (b := ⟨g, (j1 + x103_2).toNat, none⟩) (v := .int .i64 (fieldOf ya x15 yb)) (fun e => hgk (by injection e))).trans HX3.out)
                     have HGC4 := Aside0.mk ((World.cell?_setCell_other (w := wr) (a := ⟨gk2, x116_3.toNat, none⟩) (b := ⟨bx, 0, none⟩) (v := .int .i64 (fieldOf ya x15 yb)) (fun e => by injection e with e;have := HBW.out;omega)).trans HGC3.out)
                     have HBB4 := Aside0.mk (Nat.le_trans HBB3.out (hput x116_3 (fieldOf ya x15 yb)).2.size)
                     have HB4 := Aside0.mk (below_drew1 (below_set (v := .int .i64 (fieldOf ya x15 yb)) (j := x116_3.toNat) HB3.out hbk))
                     rw [← e2] at c8b0
                     have q3' := eq_true c8
                     have q4' := eq_true q4
                     have p3' := eq_true p3
                     clear hput hck hcr hok hbk hlk hgr2 hgk hxk q3 q4 p3 c8
                     go_wp2
                     refine still_tail_drew 19 (by kernel_rfl) (by kernel_rfl) ?_
                     simp only [List.take_succ_cons, List.take_zero, List.drop_succ_cons, List.drop_zero]
                     repeat (first | still_step | simp only [i64_w])
                     refine wpStill_nil ?_
                     go_wp2
                     go_roundg k4
                     case measure => have := HK3.out;omega
                     case rel => exact ⟨_, _, rfl, H', ⟨by have := HK3.out;omega⟩, HS4, HX4, HBB4, HGC4, HB4⟩
                    ·rw [if_neg c9] at H;cases H
                   ·rw [if_neg c8] at H
                    have c8b0 : decide (x116_3 < (L : Int)) = false := decide_eq_false c8
                    have H' := Aside0.mk H
                    clear H c8
                    go_wp2
                    go_roundg k4
                    case measure => have := HK2.out;have := HK3.out;omega
                    case rel => exact ⟨M3, _, rfl, H', ⟨by have := HK2.out;have := HK3.out;omega⟩, HS3, HBB3, HGC3, HB3⟩
                ·rw [if_neg c7] at H;cases H
               ·rw [if_neg c6] at H
                have c6b0 : decide (x103_2 < ((n6 - j1.toNat : Nat) : Int)) = false := decide_eq_false (by have := HP5.out;omega)
                have H' := Aside0.mk H
                clear H c6
                go_wp2
                try rw [HJ1.out]
                go_roundg k3
                case measure => have := HK1.out;have := HKb1.out;have := HK2.out;omega
                case rel => exact ⟨M2, _, _, rfl, rfl, H', ⟨by have := HK1.out;have := HKb1.out;have := HK2.out;omega⟩, HS2, HBB2, HB2⟩
            ·rw [if_neg c5] at H;cases H
           ·rw [if_neg c4] at H;cases H
         ·rw [if_neg c2] at H;cases H
        ·rw [if_neg c1] at H
         have c1b0 : decide (x62_1 < t172) = false := decide_eq_false c1
         injection H with H
         subst H
         clear c1
         go_wp2
         go_ret
         exact ⟨rfl, HB.out⟩
  ·rw [if_neg c5] at H
   exact absurd H (by simp)
 ·rw [if_neg c4] at H
  exact absurd H (by simp)




end Go.Proofs.Ytaddgielnfhhpaa.QNullityOf
