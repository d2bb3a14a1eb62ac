import Derived.Test.YthbjajppdomhhaaDoorQChainsOf0
import Derived.Test.YthbjajppdomhhaaDoorQChainsOf11
namespace Go.Proofs.YthbjajppdomhhaaDoor.QChainsOf
open Go.RowKit Go.Proofs.YthbjajppdomhhaaDoorW.PrintWords Go.Proofs.YthbjajppdomhhaaDoorW.PrintLast Go.Proofs.YthbjajppdomhhaaDoorW.PrintMore
attribute [local go_sem] max2_int min2_int max_two min_two max_three min_three max_four min_four   -- for this text's walks alone
set_option linter.unusedVariables false
set_option linter.unusedSimpArgs false
/-! ### impl_net_chains: function 62 -/
/-! #### slices.IndexFunc at []int, a predicate that may lay blocks, told up to the first that is wanted: by hand -/
def idxO (q : Int → Option Bool) : List Int → Int → Option Int
 | [], _ => some (-1)
 | x :: l, i => (q x).bind fun b => if b = true then some i else idxO q l (i + 1)
theorem idxO_mono {q q' : Int → Option Bool} (h : ∀ x, LeO (q x) (q' x)) : ∀ (l : List Int) (i : Int), LeO (idxO q l i) (idxO q' l i)
 | [], _ => LeO.refl _
 | x :: l, i => by
  unfold idxO
  refine LeO.bind (h x) (fun b => ?_)
  refine LeO.ite (LeO.refl _) (idxO_mono h l _)
theorem idxO_use {q : Int → Option Bool} {l : List Int} {kk : Nat} {r : Int} (hi : kk < l.length) (h : idxO q (l.drop kk) (kk : Int) = some r) :
  ∃ b, q (rd l (kk : Int)) = some b ∧ ((b = true ∧ r = (kk : Int)) ∨ (b = false ∧ idxO q (l.drop (kk + 1)) ((kk + 1 : Nat) : Int) = some r)) := by
 have e : rd l (kk : Int) = l[kk] := by simp [rd, hi]
 rw [List.drop_eq_getElem_cons hi] at h
 unfold idxO at h
 obtain ⟨b, hb, h⟩ := Option.bind_eq_some_iff.1 h
 refine ⟨b, by rw [e];exact hb, ?_⟩
 cases b with
 | true => rw [if_pos rfl] at h;exact .inl ⟨rfl, (Option.some.inj h).symm⟩
 | false => rw [if_neg (by decide)] at h;exact .inr ⟨rfl, by rw [← h];rfl⟩
set_option maxHeartbeats 1600000 in
set_option maxRecDepth 100000 in
theorem indexFuncO_calls (g : Nat) (lb : Array Value) (eg : ∀ args w, (callFunc g args).run Tryd.prog w = .ok (.enter g args) w) (q : Int → Option Bool) (A : Option Addr) (c : Nat) (l : List Int) (w : World) (hr : Kd.C (Kd.int .i64) w A l.length l) (r : Int) (h : idxO q l 0 = some r)
  (hp : ∀ x b W, q x = some b → Below w.heap.size w W → Calls Tryd.prog g (#[.int .i64 x] ++ lb) W fun e w' => e = .returned (.bool b) ∧ Below W.heap.size W w') :
  Calls Tryd.prog 104 #[.slice A l.length c, .func (.func g) #[] lb] w fun e w' => e = .returned (.int .i64 r) ∧ Below w.heap.size w w' := by
 have HR := Aside0.mk hr
 have HP := Aside0.mk hp
 have hL := hr.2.1
 have HI := Aside0.mk (show idxO q (l.drop 0) ((0 : Nat) : Int) = some r from h)
 clear hr hp h
 go_enter Tryd.func104, Tryd.ntmps104
 go_wp2
 go_loopg [5, 8] l.length (fun gg _ s8 wr => ∃ kk : Nat, kk ≤ l.length ∧ l.length - kk ≤ gg ∧ s8 = .int .i64 (kk : Int) ∧ Aside0 (Below w.heap.size w wr) ∧ Aside0 (idxO q (l.drop kk) (kk : Int) = some r))
 case atStart => exact ⟨0, Nat.zero_le _, by omega, rfl, ⟨Below.refl _ _⟩, HI⟩
 case round =>
  clear HI
  obtain ⟨kk, hkk, hg, rfl, HB, NY⟩ := hrel
  by_cases hlt : kk < l.length
  ·have hltz : (kk : Int) < (l.length : Int) := by omega
   have hk0 : (0 : Int) ≤ (kk : Int) := by omega
   obtain ⟨ad, rfl, hcell⟩ := Kd.at_int (Kd.C_below HR.out HB.out) (kk : Int) hk0 hltz
   rw [Int.toNat_natCast] at hcell
   obtain ⟨b, hq, hcs⟩ := idxO_use hlt NY.out
   have hcall := HP.out (rd l (kk : Int)) b wr hq HB.out
   clear hq NY
   have HC := Aside0.mk hcs
   clear hcs
   generalize hx : rd l (kk : Int) = x at hcell hcall
   clear hx
   cases b with
   | true =>
    obtain rfl : r = (kk : Int) := by rcases HC.out with h | h;exact h.2;exact absurd h.1 (by decide)
    clear HC
    go_wp2_with (go_at_fn g;refine hcall.mono ?_;rintro e w' ⟨rfl, hb⟩)
    go_ret
    exact ⟨rfl, below_step HB.out hb⟩
   | false =>
    have NY := Aside0.mk (show idxO q (l.drop (kk + 1)) ((kk + 1 : Nat) : Int) = some r by rcases HC.out with h | h;exact absurd h.1 (by decide);exact h.2)
    clear HC
    go_wp2_with (go_at_fn g;refine hcall.mono ?_;rintro e w' ⟨rfl, hb⟩)
    go_roundg (l.length - (kk + 1))
    case measure => omega
    case rel => exact ⟨kk + 1, by omega, by omega, by first | rfl | go_num, ⟨below_step HB.out hb⟩, NY⟩
  ·have hltz : ¬ (kk : Int) < (l.length : Int) := by omega
   obtain rfl : kk = l.length := by omega
   obtain rfl : r = -1 := by have h := NY.out;rw [List.drop_length] at h;exact (Option.some.inj h).symm
   go_wp2
   go_ret
   exact ⟨rfl, HB.out⟩

/-- Has a node just one neighbor that is not coloured? -/
def chQ (near : List Int) (c x : Int) : Option Bool := if 0 ≤ x ∧ x < (near.length : Int) then (bits_OnesCount.f (IntKind.u64.wrap (Go.bits .andNot .i64 (rd near x) c))).bind fun n => some (decide (n = 1)) else none
theorem at_below {W0 W : World} (hb : Below W0.heap.size W0 W) {p : Addr} {v : Value} (h : W0.cell? p = some v) : W.cell? p = some v := (hb.cell (World.block_lt_of_cell? _ _ h)).trans h
set_option maxHeartbeats 1600000 in
theorem ch_fn (gN gC : Nat) (A : Option Addr) (c : Nat) (near : List Int) (col x : Int) (b : Bool) (W : World) (hN : W.cell? ⟨gN, 0, none⟩ = some (.slice A near.length c)) (hS : W.cell? ⟨gC, 0, none⟩ = some (.int .i64 col)) (hC : Kd.C (Kd.int .i64) W A near.length near)
  (h : chQ near col x = some b) :
  Calls Tryd.prog 105 (#[.int .i64 x] ++ #[.pointer (some ⟨gN, 0, none⟩), .pointer (some ⟨gC, 0, none⟩)]) W fun e w' => e = .returned (.bool b) ∧ Below W.heap.size W w' := by
 unfold chQ at h
 split at h
 case isFalse => cases h
 rename_i hx01
 obtain ⟨h0, h1⟩ := hx01
 obtain ⟨n, hn, h⟩ := Option.bind_eq_some_iff.1 h
 obtain rfl := Option.some.inj h
 clear h
 obtain ⟨ad, rfl, hx⟩ := Kd.at_int hC x h0 h1
 have hcall := fun W' => bits_OnesCount.calls (IntKind.u64.wrap (Go.bits .andNot .i64 (rd near x) col)) n W' hn
 clear hn hC
 have p0 : (0 ≤ x) = True := eq_true h0
 have p1 : (x < (near.length : Int)) = True := eq_true h1
 generalize rd near x = y at hx hcall
 show Calls Tryd.prog 105 #[.int .i64 x, .pointer (some ⟨gN, 0, none⟩), .pointer (some ⟨gC, 0, none⟩)] W _
 go_enter Tryd.func105, Tryd.ntmps105
 go_wp2
 go_quiet ((go_at_call 94;refine (hcall _).mono ?_;rintro e w' ⟨rfl, ⟨nd, rfl⟩⟩;exact ⟨rfl, _, World.drewN_drewN _ _ _⟩))
 go_wp2
 go_ret
 exact ⟨by first | rfl | simp, by first | exact pw_below_drewN (Below.refl _ _) _ | exact below_drew1 (Below.refl _ _) | (simp only [World.drewN_drewN];exact pw_below_drewN (Below.refl _ _) _)⟩

mutual
def impl_net_chains.l0 : Nat → List Int → Int → List Int → List Int → Option ((List (List Int)) × Bool)
 | 0, _, _, _, _ => none
 | k + 1, x1, x6, x7, x301000 => (impl_net_all.f x301000).bind fun t309 => (if x6 = t309 then (impl_net_chains.l1 k x7 ([] : List (List Int)) x1 (x1.length : Int) 0) else ((impl_setOf.f k x6).bind fun t310 => ((idxO (chQ x301000 x6) t310 0).bind fun t313 => (if t313 < 0 then (some (([] : List (List Int)), false)) else ((impl_setOf.f k x6).bind fun t314 => (if 0 ≤ t313 then (if t313 < (t314.length : Int) then (if 0 ≤ (rd t314 t313) then (if (rd t314 t313) < (x301000.length : Int) then ((bits_TrailingZeros.f (IntKind.u64.wrap (Go.bits .andNot .i64 (rd x301000 (rd t314 t313)) x6))).bind fun t319 => (if (rd t314 t313) < (x7.length : Int) then ((some (x7.set ((rd t314 t313) : Int).toNat t319 : List Int)).bind fun y320 => (if 0 ≤ (rd y320 (rd t314 t313)) then (impl_net_chains.l0 k x1 (Go.bits .or .i64 x6 (shl .i64 1 (rd y320 (rd t314 t313)))) y320 x301000) else (none))) else (none))) else (none)) else (none)) else (none)) else (none)))))))
def impl_net_chains.l1 : Nat → List Int → List (List Int) → List Int → Int → Int → Option ((List (List Int)) × Bool)
 | 0, _, _, _, _, _ => none
 | k + 1, x7, x10, x54, x55, x56 => if x56 < x55 then (if 0 ≤ x56 then (if x56 < (x54.length : Int) then (impl_net_chains.l2 k x7 x10 (rd x54 x56) ([] : List Int) x54 x55 x56) else (none)) else (none)) else (some (x10, true))
def impl_net_chains.l2 : Nat → List Int → List (List Int) → Int → List Int → List Int → Int → Int → Option ((List (List Int)) × Bool)
 | 0, _, _, _, _, _, _, _ => none
 | k + 1, x7, x10, x12, x13, x54, x55, x56 => if x12 ≥ 0 then (if x13.length < 17592186044416 then (if 0 ≤ x12 then (if x12 < (x7.length : Int) then (impl_net_chains.l2 k x7 x10 (rd x7 x12) (x13 ++ [x12]) x54 x55 x56) else (none)) else (none)) else (none)) else (if x10.length < 5864062014805 then (impl_net_chains.l1 k x7 (x10 ++ [x13]) x54 x55 (wrap64 (x56 + 1))) else (none))
end
def impl_net_chains.f (k : Nat) (l0_0 : List Int) (l1 : List Int) : Option ((List (List Int)) × Bool) := (impl_maskOf.f k l1).bind fun t301 => ((impl_net_size.f l0_0).bind fun t305 => ((slices_Repeat_int_int.f (([(-1)] : List Int)) t305).bind fun t306 => (impl_net_chains.l0 k l1 t301 t306 l0_0)))
theorem impl_net_chains.mono_l : ∀ k, (∀ y0 y1 y2 y3, LeO (impl_net_chains.l0 k y0 y1 y2 y3) (impl_net_chains.l0 (k + 1) y0 y1 y2 y3)) ∧ (∀ y0 y1 y2 y3 y4, LeO (impl_net_chains.l1 k y0 y1 y2 y3 y4) (impl_net_chains.l1 (k + 1) y0 y1 y2 y3 y4)) ∧ (∀ y0 y1 y2 y3 y4 y5 y6, LeO (impl_net_chains.l2 k y0 y1 y2 y3 y4 y5 y6) (impl_net_chains.l2 (k + 1) y0 y1 y2 y3 y4 y5 y6))
 | 0 => ⟨fun _ _ _ _ r h => by simp [impl_net_chains.l0] at h, fun _ _ _ _ _ r h => by simp [impl_net_chains.l1] at h, fun _ _ _ _ _ _ _ r h => by simp [impl_net_chains.l2] at h⟩
 | k + 1 => by
  obtain ⟨ih0, ih1, ih2⟩ := impl_net_chains.mono_l k
  refine ⟨?_, ?_, ?_⟩
  ·intro y0 y1 y2 y3
   unfold impl_net_chains.l0
   repeat' first
   | (with_reducible exact ih0 _ _ _ _)
   | (with_reducible exact ih1 _ _ _ _ _)
   | (with_reducible exact ih2 _ _ _ _ _ _ _)
   | (with_reducible exact impl_maskOf.mono _ _)
   | (with_reducible exact impl_setOf.mono _ _)
   | (with_reducible exact LeO.refl _)
   | (with_reducible exact LeO.none _)
   | (with_reducible refine LeO.ite ?_ ?_)
   | (with_reducible refine LeO.bind ?_ (fun _ => ?_))
   | exact ih0 _ _ _ _
   | exact ih1 _ _ _ _ _
   | exact ih2 _ _ _ _ _ _ _
   | exact impl_maskOf.mono _ _
   | exact impl_setOf.mono _ _
   | exact LeO.none _
   | refine LeO.ite ?_ ?_
   | refine LeO.bind ?_ (fun _ => ?_)
  ·intro y0 y1 y2 y3 y4
   unfold impl_net_chains.l1
   repeat' first
   | (with_reducible exact ih0 _ _ _ _)
   | (with_reducible exact ih1 _ _ _ _ _)
   | (with_reducible exact ih2 _ _ _ _ _ _ _)
   | (with_reducible exact impl_maskOf.mono _ _)
   | (with_reducible exact impl_setOf.mono _ _)
   | (with_reducible exact LeO.refl _)
   | (with_reducible exact LeO.none _)
   | (with_reducible refine LeO.ite ?_ ?_)
   | (with_reducible refine LeO.bind ?_ (fun _ => ?_))
   | exact ih0 _ _ _ _
   | exact ih1 _ _ _ _ _
   | exact ih2 _ _ _ _ _ _ _
   | exact impl_maskOf.mono _ _
   | exact impl_setOf.mono _ _
   | exact LeO.none _
   | refine LeO.ite ?_ ?_
   | refine LeO.bind ?_ (fun _ => ?_)
  ·intro y0 y1 y2 y3 y4 y5 y6
   unfold impl_net_chains.l2
   repeat' first
   | (with_reducible exact ih0 _ _ _ _)
   | (with_reducible exact ih1 _ _ _ _ _)
   | (with_reducible exact ih2 _ _ _ _ _ _ _)
   | (with_reducible exact impl_maskOf.mono _ _)
   | (with_reducible exact impl_setOf.mono _ _)
   | (with_reducible exact LeO.refl _)
   | (with_reducible exact LeO.none _)
   | (with_reducible refine LeO.ite ?_ ?_)
   | (with_reducible refine LeO.bind ?_ (fun _ => ?_))
   | exact ih0 _ _ _ _
   | exact ih1 _ _ _ _ _
   | exact ih2 _ _ _ _ _ _ _
   | exact impl_maskOf.mono _ _
   | exact impl_setOf.mono _ _
   | exact LeO.none _
   | refine LeO.ite ?_ ?_
   | refine LeO.bind ?_ (fun _ => ?_)
theorem impl_net_chains.mono : ∀ a0 a1 k, LeO (impl_net_chains.f k a0 a1) (impl_net_chains.f (k + 1) a0 a1) := by
 intro a0 a1 k
 obtain ⟨ih0, ih1, ih2⟩ := impl_net_chains.mono_l k
 unfold impl_net_chains.f
 repeat' first
   | (with_reducible exact ih0 _ _ _ _)
   | (with_reducible exact ih1 _ _ _ _ _)
   | (with_reducible exact ih2 _ _ _ _ _ _ _)
   | (with_reducible exact impl_maskOf.mono _ _)
   | (with_reducible exact impl_setOf.mono _ _)
   | (with_reducible exact LeO.refl _)
   | (with_reducible exact LeO.none _)
   | (with_reducible refine LeO.ite ?_ ?_)
   | (with_reducible refine LeO.bind ?_ (fun _ => ?_))
   | exact ih0 _ _ _ _
   | exact ih1 _ _ _ _ _
   | exact ih2 _ _ _ _ _ _ _
   | exact impl_maskOf.mono _ _
   | exact impl_setOf.mono _ _
   | exact LeO.none _
   | refine LeO.ite ?_ ?_
   | refine LeO.bind ?_ (fun _ => ?_)
def impl_net_chains.T8 : Bool × List (List Nat × List Nat) := (true, [([], []), ([], []), ([], []), ([2], [2]), ([], []), ([3, 4], [3, 4]), ([5], [5]), ([], []), ([6, 7], [6, 7]), ([8], [8]), ([9], [9]), ([0, 1, 0, 1, 2, 3, 4, 5, 6, 7, 8, 9, 10], [0, 1]), ([11, 10, 10, 0, 1, 2, 3, 4, 5, 6, 7, 8, 9, 10], [10, 11])])
def impl_net_chains.B8 : List Nat := [0, 0, 0, 4, 0, 28, 60, 0, 252, 508, 1020, 2047, 4095]
theorem impl_net_chains.tab8 : rtab .any (opsOf Tryd.f62 8) = impl_net_chains.T8 := by kernel_rfl
theorem impl_net_chains.bits8 : waitsOk impl_net_chains.T8.2 impl_net_chains.B8 = true := by kernel_rfl
def impl_net_chains.T9 : Bool × List (List Nat × List Nat) := (true, [([], []), ([], []), ([], []), ([1, 2], [1, 2]), ([3], [3]), ([4], [4]), ([0, 5], [0, 5]), ([6, 0, 1, 2, 3, 4, 5, 6], [6])])
def impl_net_chains.B9 : List Nat := [0, 0, 0, 6, 14, 30, 63, 127]
theorem impl_net_chains.tab9 : rtab .any (opsOf Tryd.f62 9) = impl_net_chains.T9 := by kernel_rfl
theorem impl_net_chains.bits9 : waitsOk impl_net_chains.T9.2 impl_net_chains.B9 = true := by kernel_rfl
set_option maxHeartbeats 8000000 in
set_option maxRecDepth 100000 in
theorem impl_net_chains.calls (k : Nat) (A0_0 : Option Addr) (c0_0 : Nat) (l0_0 : List Int) (A1 : Option Addr) (c1 : Nat) (l1 : List Int) (r1 : List (List Int)) (r2 : Bool) (w : World) (hT : TabG w) (hr0_0 : Kd.C (Kd.int .i64) w A0_0 l0_0.length l0_0) (hc0_0 : l0_0.length ≤ c0_0) (hr1 : Kd.C (Kd.int .i64) w A1 l1.length l1) (hc1 : l1.length ≤ c1) (h : impl_net_chains.f k l0_0 l1 = some (r1, r2)) :
  Calls Tryd.prog 62 #[.agg #[.slice A0_0 l0_0.length c0_0], .slice A1 l1.length c1] w fun e w' => ∃ v0_ : Value, e = .returned (.tuple #[v0_, .bool r2]) ∧ Kd.S (Kd.slice 3 (Kd.int .i64)) 32 w' w.heap.size (fun _ => True) v0_ r1 ∧ Below w.heap.size w w' := by
 have hu62 := Tryd.underlying62
 have HR0_0 := Aside0.mk hr0_0
 have HC0_0 := Aside0.mk hc0_0
 clear hr0_0 hc0_0
 have HR1 := Aside0.mk hr1
 have HC1 := Aside0.mk hc1
 clear hr1 hc1
 have HB := Aside0.mk (Below.refl w.heap.size w)
 have HT := Aside0.mk hT
 clear hT
 have H : ((impl_maskOf.f k l1).bind fun t301 => ((impl_net_size.f l0_0).bind fun t305 => ((slices_Repeat_int_int.f (([(-1)] : List Int)) t305).bind fun t306 => (impl_net_chains.l0 k l1 t301 t306 l0_0)))) = some (r1, r2) := h
 clear h
 replace H := Option.bind_eq_some_iff.mp H
 obtain ⟨t301, A30, H⟩ := H
 replace H : ((impl_net_size.f l0_0).bind fun t305 => ((slices_Repeat_int_int.f (([(-1)] : List Int)) t305).bind fun t306 => (impl_net_chains.l0 k l1 t301 t306 l0_0))) = some (r1, r2) := H
 have A3 := Aside0.mk A30
 clear A30
 obtain ⟨y302, hy302⟩ : ∃ y_ : List Int, y_ = (([(-1)] : List Int)) := ⟨_, rfl⟩
 replace H : ((impl_net_size.f l0_0).bind fun t305 => ((slices_Repeat_int_int.f y302 t305).bind fun t306 => (impl_net_chains.l0 k l1 t301 t306 l0_0))) = some (r1, r2) := by first | (rw [hy302];with_reducible exact H) | (have H2_ := (Option.bind_some _ _).symm.trans H;rw [hy302];with_reducible exact H2_) | (have H2_ := (Option.bind_some _ _).symm.trans H;with_reducible exact H2_) | with_reducible exact H | (rw [hy302];exact H) | exact H
 have Ny302 := Aside0.mk hy302
 clear hy302
 replace H := Option.bind_eq_some_iff.mp H
 obtain ⟨t305, A40, H⟩ := H
 replace H : ((slices_Repeat_int_int.f y302 t305).bind fun t306 => (impl_net_chains.l0 k l1 t301 t306 l0_0)) = some (r1, r2) := H
 have A4 := Aside0.mk A40
 clear A40
 replace H := Option.bind_eq_some_iff.mp H
 obtain ⟨t306, A50, H⟩ := H
 replace H : (impl_net_chains.l0 k l1 t301 t306 l0_0) = some (r1, r2) := H
 have A5 := Aside0.mk A50
 clear A50
 have H' := Aside0.mk H
 clear H
 go_enter Tryd.func62, Tryd.ntmps62
 go_upto_region 2 with (first | ((with_reducible refine gate_dst (N := 2) rfl ?_);refine box_event ?hg (N := 2) ?hd (cs := #[.slice A0_0 l0_0.length c0_0]) (t := 62) ?hr ?_;(case hd => rfl);(case hg => rfl);(case hr => first | (go_simp;done) | (go_simp;rfl));intro gb300 hg w6 hbox hb;have n0_ := Aside0.mk (below_step (by exact bB) hb);have n1_ := Aside0.mk (hbox);have n2_ := Aside0.mk ((by rw [hg];exact (below_size (by exact bB)) : w.heap.size ≤ gb300));have n3_ := Aside0.mk ((by rw [hg];exact (below_size (by exact bB)) : w.heap.size ≤ gb300));clear HB;have HB := n0_;have BK300 := n1_;have GW300 := n2_;have GE300 := n3_;clear n0_ n1_ n2_ n3_;clear hb hbox hg) | ((with_reducible refine gate_callee (f := 54) rfl ?_);refine goesL_ (some 15) rfl rfl Tryd.func54 (by kernel_rfl) rfl #[.slice A1 l1.length c1] rfl mM ?_;(with_reducible refine (impl_maskOf.calls k _ _ l1 t301 _ ?side1 ?side2 A3.out).mono ?_);(case side1 => exact cP (Kd.C_below HR1.out HB.out));(case side2 => exact HC1.out);rintro e w' ⟨rfl, ⟨nd, rfl⟩⟩;refine ⟨_, rfl, ?_⟩) | ((with_reducible refine gate_dst (N := 6) rfl ?_);refine box_event ?hg (N := 6) ?hd (cs := #[.int .i64 0]) (t := 3) ?hr ?_;(case hd => rfl);(case hg => rfl);(case hr => first | (go_simp;done) | (go_simp;rfl));intro gbc hg wc0 hbox hb;have n0_ := Aside0.mk (kB hb BK300.out);have n1_ := Aside0.mk (below_step (by exact bB) hb);have n2_ := Aside0.mk hbox;have n3_ : Aside0 (w.heap.size ≤ gbc) := ⟨by rw [hg];exact below_size (by exact bB)⟩;have n4_ := Aside0.mk (nL hg (kP BK300.out));clear BK300 HB;have BK300 := n0_;have HB := n1_;have BKC := n2_;have GEC := n3_;have NWC := n4_;clear n0_ n1_ n2_ n3_ n4_;clear hb hbox hg;have hczc_ : wc0.cell? ⟨gbc, 0, none⟩ = some (.int .i64 0) := (blk_cell BKC.out 0).trans rfl;have hfzc_ := blk_frozen BKC.out 0))
 have n0_ : Aside0 ((wc0.setCell ⟨gbc, 0, none⟩ (.int .i64 t301)).heap[gb300]? = some (.cells #[.slice A0_0 l0_0.length c0_0] 62 (0, 0))) := ⟨blk_far BK300.out NWC.out _⟩
 have n1_ : Aside0 ((wc0.setCell ⟨gbc, 0, none⟩ (.int .i64 t301)).heap[gbc]? = some (.cells #[.int .i64 t301] 3 (0, 0))) := ⟨blk_put BKC.out 0 _ rfl⟩
 have n2_ : Aside0 (Below w.heap.size w (wc0.setCell ⟨gbc, 0, none⟩ (.int .i64 t301))) := ⟨below_set HB.out GEC.out⟩
 clear hczc_ hfzc_ BK300 BKC HB
 generalize (wc0.setCell ⟨gbc, 0, none⟩ (.int .i64 t301)) = wcs at n0_ n1_ n2_ ⊢
 have BK300 := n0_
 have BKC := n1_
 have HB := n2_
 clear n0_ n1_ n2_
 go_wp2_with (first | ((with_reducible refine gate_dst (N := 16) rfl ?_);refine Kd.R_lit (Kd.int .i64) _ 3 ?hg (N := 16) ?hd (xs := ([(-1)] : List Int)) (inner := [.int .i64 (-1)]) (ok := fun _ => True) (okp := fun _ => True) ?hr ?hp (fun _ hk => hk) trivial (Below.refl _ _) (Nat.le_refl _) (by simp) ?_;(case hd => rfl);(case hg => rfl);(case hr => first | (go_simp;done) | (go_simp;rfl));(case hp => exact (Reps.one (show Kd.M (Kd.int .i64) _ _ _ (-1) [.int .i64 (-1)] from rfl) (Reps.none _ _)));intro v303 w7 ho8 hb hg_ hnew_;clear hg_ hnew_;(first | rw [← Ny302.out] at ho8 | (simp only [Int.reduceToNat] at ho8;rw [← Ny302.out] at ho8));have n0_ := Aside0.mk (Kd.R_lower ho8 (below_size (by exact bB)));have n1_ := Aside0.mk (blk_below (g := gb300) (o := .cells #[.slice A0_0 l0_0.length c0_0] 62 (0, 0)) (by exact kP BK300.out) hb);have nC_ := Aside0.mk (kB hb BKC.out);have n2_ := Aside0.mk (below_step (by exact bB) hb);clear BK300 BKC;clear HB;have HO304 := n0_;have BK300 := n1_;have BKC := nC_;clear nC_;have HB := n2_;clear n0_ n1_ n2_;clear hb ho8;have hcz9_0 : w7.cell? ⟨gb300, 0, none⟩ = some (.slice A0_0 l0_0.length c0_0) := (blk_cell BK300.out 0).trans rfl;have hfz9_0 := blk_frozen BK300.out 0) | ((with_reducible refine gate_callee (f := 103) rfl ?_);refine goesL_ (some 18) rfl rfl Tryd.func103 (by kernel_rfl) rfl #[.agg #[.slice A0_0 l0_0.length c0_0]] rfl mM ?_;(with_reducible refine (impl_net_size.calls _ _ l0_0 t305 _ ?side1 ?side2 A4.out).mono ?_);(case side1 => exact cP (Kd.C_below HR0_0.out HB.out));(case side2 => exact HC0_0.out);rintro e w10 ⟨rfl, hb⟩;refine ⟨_, rfl, ?_⟩;have n0_ := Aside0.mk (Kd.R_below (by exact rP HO304.out) hb);have n1_ := Aside0.mk (blk_below (g := gb300) (o := .cells #[.slice A0_0 l0_0.length c0_0] 62 (0, 0)) (by exact kP BK300.out) hb);have nC_ := Aside0.mk (kB hb BKC.out);have n2_ := Aside0.mk (below_step (by exact bB) hb);clear HO304;clear BK300 BKC;clear HB;have HO304 := n0_;have BK300 := n1_;have BKC := nC_;clear nC_;have HB := n2_;clear n0_ n1_ n2_;(try clear hb);(try clear hb2);(try clear hk);(try clear hi);obtain ⟨Ao11, co11, eo11⟩ := Kd.R_slice HO304.out;subst eo11) | ((with_reducible refine gate_callee (f := 102) rfl ?_);refine goesL_ (some 19) rfl rfl Tryd.func102 (by kernel_rfl) rfl #[.slice Ao11 y302.length co11, .int .i64 t305] rfl mM ?_;(with_reducible refine (slices_Repeat_int_int.calls _ _ y302 t305 t306 _ ?side1 ?side2 A5.out).mono ?_);(case side1 => exact cP (Kd.R_reads' HO304.out).2.2);(case side2 => exact (Kd.R_reads' HO304.out).2.1);rintro e w12 ⟨v307, rfl, ho0, hb⟩;refine ⟨_, rfl, ?_⟩;have n0_ := Aside0.mk (Kd.R_elder' (by exact rP HO304.out) (Kd.R_base ho0) hb);have n1_ := Aside0.mk (Kd.R_lower (Kd.R_mono (ok' := fun k_ => k_ ≠ gbc) (Kd.R_newB ho0 (kP BKC.out)) (fun _ hk => hk.2)) (below_size (by exact bB)));have n2_ := Aside0.mk (blk_below (g := gb300) (o := .cells #[.slice A0_0 l0_0.length c0_0] 62 (0, 0)) (by exact kP BK300.out) hb);have nC_ := Aside0.mk (kB hb BKC.out);have n3_ := Aside0.mk (below_step (by exact bB) hb);clear HO304;clear BK300 BKC;clear HB;have HO304 := n0_;have HO308 := n1_;have BK300 := n2_;have BKC := nC_;clear nC_;have HB := n3_;clear n0_ n1_ n2_ n3_;(try clear hb);(try clear hb2);(try clear hk);(try clear hi);(try clear ho0)))
 go_loopg [8] k (fun kq v8 w' => ∃ (x6_1 : Int) (x7_1 : List Int), Aside0 (impl_net_chains.l0 kq l1 x6_1 x7_1 l0_0 = some (r1, r2)) ∧ Aside0 (kq ≤ k) ∧ Aside0 (Kd.R (Kd.int .i64) 3 w' w.heap.size (fun k_ => k_ ≠ gbc) v307 x7_1) ∧ Aside0 (w'.heap[gb300]? = some (.cells #[(.slice A0_0 l0_0.length c0_0)] 62 (0, 0))) ∧ Aside0 (w'.heap[gbc]? = some (.cells #[.int .i64 x6_1] 3 (0, 0))) ∧ Aside0 (Below w.heap.size w w'))
 case atStart => exact ⟨(t301), (t306), H', ⟨Nat.le_refl _⟩, ⟨by exact rP HO308.out⟩, ⟨by exact kP BK300.out⟩, ⟨by exact kP BKC.out⟩, ⟨by exact bB⟩⟩
 case round =>
  clear H'
  try clear c1
  try clear p2
  try clear c5
  try clear c6
  try clear c10
  try clear hcz9_0
  try clear hfz9_0
  obtain ⟨x6_1, x7_1, HA, HK1, HO_7, BK300, BKC, HB⟩ := hrel
  cases gk with
  | zero => exact absurd HA.out (by simp [impl_net_chains.l0])
  | succ k1 =>
   have H := HA.out
   clear HA
   simp only [impl_net_chains.l0] at H
   replace H := Option.bind_eq_some_iff.mp H
   obtain ⟨t309, A130, H⟩ := H
   replace H : (if x6_1 = t309 then (impl_net_chains.l1 k1 x7_1 ([] : List (List Int)) l1 (l1.length : Int) 0) else ((impl_setOf.f k1 x6_1).bind fun t310 => ((idxO (chQ l0_0 x6_1) t310 0).bind fun t313 => (if t313 < 0 then (some (([] : List (List Int)), false)) else ((impl_setOf.f k1 x6_1).bind fun t314 => (if 0 ≤ t313 then (if t313 < (t314.length : Int) then (if 0 ≤ (rd t314 t313) then (if (rd t314 t313) < (l0_0.length : Int) then ((bits_TrailingZeros.f (IntKind.u64.wrap (Go.bits .andNot .i64 (rd l0_0 (rd t314 t313)) x6_1))).bind fun t319 => (if (rd t314 t313) < (x7_1.length : Int) then ((some (x7_1.set ((rd t314 t313) : Int).toNat t319 : List Int)).bind fun y320 => (if 0 ≤ (rd y320 (rd t314 t313)) then (impl_net_chains.l0 k1 l1 (Go.bits .or .i64 x6_1 (shl .i64 1 (rd y320 (rd t314 t313)))) y320 l0_0) else (none))) else (none))) else (none)) else (none)) else (none)) else (none))))))) = some (r1, r2) := H
   have A13 := Aside0.mk A130
   clear A130
   by_cases c14 : x6_1 = t309
   ·rw [if_pos c14] at H
    have c14b0 : (x6_1 == t309) = true := beq_iff_eq.mpr c14
    have c14b1 : (x6_1 != t309) = false := bne_eq_false_iff_eq.mpr c14
    clear c14
    have H' := Aside0.mk H
    clear H
    try go_wp2
    have n0_ := Aside0.mk (Kd.R_drew HO_7.out)
    have n1_ := Aside0.mk (blk_drew BK300.out);have nC_ := Aside0.mk (blk_drew BKC.out)
    have n2_ := Aside0.mk (below_drew1 HB.out)
    clear HO_7
    clear BK300 BKC
    clear HB
    have HO_7 := n0_
    have BK300 := n1_;have BKC := nC_;clear nC_
    have HB := n2_
    clear n0_ n1_ n2_
    refine start_ (n := 4) (S := fun w' => w'.cell? ⟨gb300, 0, none⟩ = some (.slice A0_0 l0_0.length c0_0) ∧ w'.cell? ⟨gbc, 0, none⟩ = some (.int .i64 x6_1)) (ds := []) #[false,false,false,false] (by kernel_rfl) rfl rfl ⟨(blk_cell BK300.out 0).trans rfl, (blk_cell BKC.out 0).trans rfl⟩ (fun hHeld => ?_)
    generalize wr.drew = w15 at HO_7 BK300 BKC HB hHeld ⊢
    refine take_ (i := 0) (N := some 20) (v := ?_) (a' := ?_) #[true,false,false,false] rfl rfl (by kernel_rfl) (fun _ _ _ h => h) (Or.inl ⟨by rfl, ?_⟩) hHeld ?_ ?_
    rotate_left
    ·rintro w' ⟨s0, s1⟩
     go_simp
     with_reducible rfl
    rotate_left
    ·simp only [Act.put, List.setIfInBounds_toArray, List.set_cons_zero, List.set_cons_succ, i64_w, i32_w]
     rfl
    refine take_ (i := 1) (N := some 21) (v := ?_) (a' := ?_) #[true,true,false,false] rfl rfl (by kernel_rfl) (fun _ _ _ h => h) (Or.inl ⟨by rfl, ?_⟩) hHeld ?_ ?_
    rotate_left
    ·rintro w' ⟨s0, s1⟩
     go_simp
     with_reducible rfl
    rotate_left
    ·simp only [Act.put, List.setIfInBounds_toArray, List.set_cons_zero, List.set_cons_succ, i64_w, i32_w]
     rfl
    refine one_ (i := 2) (N := some 22) #[true,true,true,false] rfl rfl (by kernel_rfl) (by decide) (fun K hK => ?_)
    refine goes_ Tryd.func46 (by kernel_rfl) rfl #[.agg #[.slice A0_0 l0_0.length c0_0]] (by rfl) rfl rfl mM ?_
    with_reducible refine (impl_net_all.calls _ _ l0_0 t309 _ ?side1 ?side2 A13.out).mono ?_
    (case side1 => exact cP (Kd.C_below HR0_0.out HB.out))
    (case side2 => exact HC0_0.out)
    rintro e w16 ⟨rfl, hb⟩
    refine ⟨_, rfl, ?_⟩
    have n0_ := Aside0.mk (Kd.R_below (by exact rP HO_7.out) hb)
    have n1_ := Aside0.mk (blk_below (g := gb300) (o := .cells #[.slice A0_0 l0_0.length c0_0] 62 (0, 0)) (by exact kP BK300.out) hb);have nC_ := Aside0.mk (kB hb BKC.out)
    have n2_ := Aside0.mk (below_step (by exact bB) hb)
    clear HO_7
    clear BK300 BKC
    clear HB
    have HO_7 := n0_
    have BK300 := n1_;have BKC := nC_;clear nC_
    have HB := n2_
    clear n0_ n1_ n2_
    (try clear hb)
    (try clear hb2)
    (try clear hk)
    (try clear hi)
    refine hK.out _ _ ⟨(blk_cell BK300.out 0).trans rfl, (blk_cell BKC.out 0).trans rfl⟩ (fun hHeld => ?_)
    clear hK K
    refine norm_ (a' := ?_) ?_ ?_
    rotate_left
    ·show Act.put _ (some 22) _ = _
     simp only [Act.put, List.setIfInBounds_toArray, List.set_cons_zero, List.set_cons_succ, i64_w, i32_w]
     rfl
    refine pure_ (i := 3) (N := some 23) (v := ?_) (a' := ?_) #[true,true,true,true] rfl rfl (by kernel_rfl) (fun _ _ _ h => h) (Or.inl ⟨by rfl, ?_⟩) ?_ ?_
    rotate_left
    ·intro w'
     go_simp
     with_reducible rfl
    rotate_left
    ·simp only [Act.put, List.setIfInBounds_toArray, List.set_cons_zero, List.set_cons_succ, i64_w, i32_w]
     rfl
    refine done_ (by kernel_rfl) ?_
    try go_wp2
    go_loopg [10, 56] k1 (fun kq v10 v56 w' => ∃ (x10_2 : List (List Int)) (x56_2 : Int), v56 = .int .i64 x56_2 ∧ Aside0 (impl_net_chains.l1 kq x7_1 x10_2 l1 (l1.length : Int) x56_2 = some (r1, r2)) ∧ Aside0 (kq ≤ k1) ∧ Aside0 (Kd.R (Kd.int .i64) 3 w' w.heap.size (fun _ => True) v307 x7_1) ∧ Aside0 (Kd.S (Kd.slice 3 (Kd.int .i64)) 32 w' w.heap.size (fun k_ => some k_ ≠ (v307 : Value).ownBlock) v10 x10_2) ∧ Aside0 (w'.heap[gb300]? = some (.cells #[(.slice A0_0 l0_0.length c0_0)] 62 (0, 0))) ∧ Aside0 (Below w.heap.size w w'))
    case atStart => exact ⟨(([] : List (List Int))), (0), (by first | rfl | (simp;done) | (simp [*];done)), H', ⟨Nat.le_refl _⟩, ⟨by refine rP ?_;exact Kd.R_mono HO_7.out (fun _ _ => trivial)⟩, ⟨by first | exact Kd.S_nil _ _ _ _ _ | exact Kd.N_nil _ _ _ _ _ | exact Kd.V_nil _ _ _ _ _ | exact Kd.Q_nil _ _ _ _ _ | exact Kd.R_nil _ _ _ _ _⟩, ⟨by exact kP BK300.out⟩, ⟨by exact bB⟩⟩
    case round =>
     clear H'
     try clear c1
     try clear p2
     try clear c4
     try clear c5
     try clear c6
     try clear c10
     try clear c14
     try clear c14b0
     try clear c14b1
     try clear hcz9_0
     try clear hfz9_0
     try clear p2
     obtain ⟨x10_2, x56_2, rfl, HA, HK2, HO_7, HO_10, BK300, HB⟩ := hrel
     cases gk with
     | zero => exact absurd HA.out (by simp [impl_net_chains.l1])
     | succ k2 =>
      have H := HA.out
      clear HA
      simp only [impl_net_chains.l1] at H
      by_cases c17 : x56_2 < (l1.length : Int)
      ·rw [if_pos c17] at H
       have c17b0 : decide (x56_2 < (l1.length : Int)) = true := decide_eq_true c17
       clear c17
       by_cases c18 : 0 ≤ x56_2
       ·rw [if_pos c18] at H
        have c18b0 : decide (0 ≤ x56_2) = true := decide_eq_true c18
        clear c18
        by_cases c19 : x56_2 < (l1.length : Int)
        ·rw [if_pos c19] at H
         have c19b0 : decide (x56_2 < (l1.length : Int)) = true := decide_eq_true c19
         clear c19
         have H' := Aside0.mk H
         clear H
         have p322 : 0 ≤ (x56_2 : Int) := oA
         have q322 : x56_2 < (l1.length : Int) := oA
         obtain ⟨ad322, e322, hx322_0⟩ := Kd.at_int HR1.out x56_2 p322 q322
         cases e322
         replace hx322_0 := (HB.out.cell (World.block_lt_of_cell? w _ hx322_0)).trans hx322_0
         replace p322 := eq_true p322
         replace q322 := eq_true q322
         go_wp2
         go_loopg [12, 13] k2 (fun kq v12 v13 w' => ∃ (x12_3 : Int) (x13_3 : List Int), v12 = .int .i64 x12_3 ∧ Aside0 (impl_net_chains.l2 kq x7_1 x10_2 x12_3 x13_3 l1 (l1.length : Int) x56_2 = some (r1, r2)) ∧ Aside0 (kq ≤ k2) ∧ Aside0 (Kd.R (Kd.int .i64) 3 w' w.heap.size (fun k_ => some k_ ≠ (v13 : Value).ownBlock) v307 x7_1) ∧ Aside0 (Kd.S (Kd.slice 3 (Kd.int .i64)) 32 w' w.heap.size (fun k_ => some k_ ≠ (v307 : Value).ownBlock ∧ some k_ ≠ (v13 : Value).ownBlock) u10 x10_2) ∧ Aside0 (Kd.R (Kd.int .i64) 3 w' w.heap.size (fun k_ => some k_ ≠ (v307 : Value).ownBlock) v13 x13_3) ∧ Aside0 (w'.heap[gb300]? = some (.cells #[(.slice A0_0 l0_0.length c0_0)] 62 (0, 0))) ∧ Aside0 (Below w.heap.size w w'))
         case atStart => exact ⟨(rd l1 x56_2), (([] : List Int)), (by first | rfl | (simp;done) | (simp [*];done)), H', ⟨Nat.le_refl _⟩, ⟨by refine rP ?_;exact Kd.R_mono HO_7.out (fun _ hk => (by simp [Value.ownBlock]))⟩, ⟨by (with_reducible repeat (first | apply Kd.S_alloc | apply Kd.S_drewN | apply Kd.S_drew));exact Kd.S_mono HO_10.out (fun _ hk => ⟨hk, (by simp [Value.ownBlock])⟩)⟩, ⟨by first | exact Kd.R_nil _ _ _ _ _ | exact Kd.N_nil _ _ _ _ _ | exact Kd.V_nil _ _ _ _ _ | exact Kd.Q_nil _ _ _ _ _ | exact Kd.S_nil _ _ _ _ _⟩, ⟨by exact kP BK300.out⟩, ⟨by exact bB⟩⟩
         case round =>
          clear H'
          try clear c1
          try clear p2
          try clear p3
          try clear q3
          try clear hx3
          try clear c4
          try clear c5
          try clear c6
          try clear c10
          try clear c14
          try clear c14b0
          try clear c14b1
          try clear c17
          try clear c17b0
          try clear c18
          try clear c18b0
          try clear c19
          try clear c19b0
          try clear hcz9_0
          try clear hfz9_0
          try clear hx322_0
          try clear p2
          try clear p322
          try clear q322
          obtain ⟨x12_3, x13_3, rfl, HA, HK3, HO_7, HO_10, HO_13, BK300, HB⟩ := hrel
          cases gk with
          | zero => exact absurd HA.out (by simp [impl_net_chains.l2])
          | succ k3 =>
           have H := HA.out
           clear HA
           simp only [impl_net_chains.l2] at H
           by_cases c20 : x12_3 ≥ 0
           ·rw [if_pos c20] at H
            have c20b0 : decide (0 ≤ x12_3) = true := decide_eq_true c20
            clear c20
            by_cases c21 : x13_3.length < 17592186044416
            ·rw [if_pos c21] at H
             have LMc21 := Aside0.mk c21
             clear c21
             obtain ⟨y323, hy323⟩ : ∃ y_ : List Int, y_ = (x13_3 ++ [x12_3]) := ⟨_, rfl⟩
             replace H : (if 0 ≤ x12_3 then (if x12_3 < (x7_1.length : Int) then (impl_net_chains.l2 k3 x7_1 x10_2 (rd x7_1 x12_3) y323 l1 (l1.length : Int) x56_2) else (none)) else (none)) = some (r1, r2) := by first | (rw [hy323];with_reducible exact H) | (have H2_ := (Option.bind_some _ _).symm.trans H;rw [hy323];with_reducible exact H2_) | (have H2_ := (Option.bind_some _ _).symm.trans H;with_reducible exact H2_) | with_reducible exact H | (rw [hy323];exact H) | exact H
             have Ny323 := Aside0.mk hy323
             clear hy323
             by_cases c22 : 0 ≤ x12_3
             ·rw [if_pos c22] at H
              have c22b0 : decide (0 ≤ x12_3) = true := decide_eq_true c22
              clear c22
              by_cases c23 : x12_3 < (x7_1.length : Int)
              ·rw [if_pos c23] at H
               have c23b0 : decide (x12_3 < (x7_1.length : Int)) = true := decide_eq_true c23
               clear c23
               have H' := Aside0.mk H
               clear H
               go_wp2_with (first | ((with_reducible refine gate_builtin (b := .append) (xs := #[.tmp 66, .tmp 68]) rfl ?_);at_builtin;refine Kd.R_append (Kd.int .i64) (w0 := w) w.heap.size rfl (.tmp 66) (.tmp 68) 32 3 (.int .i64 0) 8 rfl Tryd.underlying32 info3 rfl (by decide) (by omega) u13 x13_3 x12_3 [.int .i64 x12_3] (fun k_ => some k_ ≠ (v307 : Value).ownBlock) (fun _ => False) rfl rfl ?aP (fun _ hk => hk.elim) ?aF ?aO ?aB ?aS ?aL ?_;(case aP => exact rfl);(case aB => exact (by exact bB));(case aF => exact (fun k_ hk => Kd.fresh' (Kd.R_lt (by exact rP HO_7.out)) k_ hk));(case aO => exact (by exact rP HO_13.out));(case aS => exact (below_size (by exact bB)));(case aL => have := LMc21.out;omega);intro v324 w24 ho hb hg hat;rw [← Ny323.out] at ho;have n0_ := Aside0.mk (Kd.R_after (ok := (fun _ => True)) (by exact rP (Kd.R_mono HO_7.out (fun _ hk => ⟨trivial, hk⟩))) hg hat);have n1_ := Aside0.mk (Kd.S_after (ok := (fun k_ => some k_ ≠ (v307 : Value).ownBlock)) (by (with_reducible repeat (first | apply Kd.S_alloc | apply Kd.S_drewN | apply Kd.S_drew));exact HO_10.out) hg hat);have n2_ := Aside0.mk (blk_grown (g := gb300) (o := .cells #[.slice A0_0 l0_0.length c0_0] 62 (0, 0)) (by exact kP BK300.out) hg (Kd.R_ne HO_13.out BK300.out (by decide)));have n3_ := Aside0.mk (hb);have n4_ := Aside0.mk (ho);clear HO_7;clear HO_10;clear BK300;clear HB;clear HO_13;have HO_7 := n0_;have HO_10 := n1_;have BK300 := n2_;have HB := n3_;have HO325 := n4_;clear n0_ n1_ n2_ n3_ n4_;clear ho hb hg hat;obtain ⟨Ao25, co25, eo25⟩ := Kd.R_slice HO_7.out;subst eo25;have p326 : 0 ≤ (x12_3 : Int) := oA;have q326 : x12_3 < (x7_1.length : Int) := oA;obtain ⟨ad326, e326, hx326_0⟩ := Kd.at_int (Kd.R_reads' HO_7.out).2.2 x12_3 p326 q326;cases e326;replace p326 := eq_true p326;replace q326 := eq_true q326))
               go_roundg k3
               case measure => have := HK1.out;have := HK2.out;have := HK3.out;omega
               case rel => exact ⟨(rd x7_1 x12_3), (y323), (by first | rfl | (simp;done) | (simp [*];done)), H', ⟨by have := HK1.out;have := HK2.out;have := HK3.out;omega⟩, ⟨by refine rP ?_;exact Kd.R_mono HO_7.out (fun _ hk => hk.2)⟩, ⟨by (with_reducible repeat (first | apply Kd.S_alloc | apply Kd.S_drewN | apply Kd.S_drew));exact HO_10.out⟩, ⟨by exact rP HO325.out⟩, ⟨by exact kP BK300.out⟩, ⟨by exact bB⟩⟩
              ·rw [if_neg c23] at H
               exact absurd H (by simp)
             ·rw [if_neg c22] at H
              exact absurd H (by simp)
            ·rw [if_neg c21] at H
             exact absurd H (by simp)
           ·rw [if_neg c20] at H
            have c20b0 : decide (0 ≤ x12_3) = false := decide_eq_false c20
            clear c20
            by_cases c26 : x10_2.length < 5864062014805
            ·rw [if_pos c26] at H
             have LMc26 := Aside0.mk c26
             clear c26
             obtain ⟨y327, hy327⟩ : ∃ y_ : List (List Int), y_ = (x10_2 ++ [x13_3]) := ⟨_, rfl⟩
             replace H : (impl_net_chains.l1 k3 x7_1 y327 l1 (l1.length : Int) (wrap64 (x56_2 + 1))) = some (r1, r2) := by first | (rw [hy327];with_reducible exact H) | (have H2_ := (Option.bind_some _ _).symm.trans H;rw [hy327];with_reducible exact H2_) | (have H2_ := (Option.bind_some _ _).symm.trans H;with_reducible exact H2_) | with_reducible exact H | (rw [hy327];exact H) | exact H
             have Ny327 := Aside0.mk hy327
             clear hy327
             have H' := Aside0.mk H
             clear H
             obtain ⟨Ao28, co28, eo28⟩ := Kd.R_slice HO_13.out
             subst eo28
             go_wp2_with (first | ((with_reducible refine gate_builtin (b := .append) (xs := #[.tmp 70, .tmp 72]) rfl ?_);at_builtin;refine Kd.S_append (Kd.slice 3 (Kd.int .i64)) (w0 := w) w.heap.size rfl (.tmp 70) (.tmp 72) 38 32 (.slice none 0 0) 24 rfl Tryd.underlying38 info32 rfl (by decide) (by omega) u10 x10_2 x13_3 [.slice Ao28 x13_3.length co28] (fun k_ => some k_ ≠ (v307 : Value).ownBlock) (fun k_ => some k_ = (.slice Ao28 x13_3.length co28 : Value).ownBlock) rfl rfl ?aP (fun k_ hk_ => ((Kd.R_mono (ok' := fun k_ => ((fun k_ => some k_ ≠ (v307 : Value).ownBlock)) k_ ∧ some k_ ≠ (u10 : Value).ownBlock) (Kd.R_apart' (HO_13.out) (Kd.S_typed HO_10.out) (by decide)) (fun k_ hk => ⟨hk.1, hk.2⟩))).1 k_ hk_.symm) ?aF ?aO ?aB ?aS ?aL ?_;(case aP => exact Kd.M_row (Kd.R_mono (Kd.R_tight rfl (Kd.R_mono (ok' := fun k_ => ((fun k_ => some k_ ≠ (v307 : Value).ownBlock)) k_ ∧ some k_ ≠ (u10 : Value).ownBlock) (Kd.R_apart' (HO_13.out) (Kd.S_typed HO_10.out) (by decide)) (fun k_ hk => ⟨hk.1, hk.2⟩))) (fun _ h_ => h_)));(case aB => exact (by exact bB));(case aF => exact (fun k_ hk => Kd.fresh' (Kd.R_lt (by exact rP HO_7.out)) k_ hk));(case aO => exact (by (with_reducible repeat (first | apply Kd.S_alloc | apply Kd.S_drewN | apply Kd.S_drew));exact Kd.S_mono HO_10.out (fun k_ hk => ⟨hk.1, fun e_ => hk.2 e_⟩)));(case aS => exact (below_size (by exact bB)));(case aL => have := LMc26.out;omega);intro v328 w27 ho hb hg hat;rw [← Ny327.out] at ho;have n0_ := Aside0.mk (Kd.R_over' (by exact rP HO_7.out) (Kd.S_typed (by (with_reducible repeat (first | apply Kd.S_alloc | apply Kd.S_drewN | apply Kd.S_drew));exact HO_10.out)) (by decide) hg);have n1_ := Aside0.mk (blk_grown (g := gb300) (o := .cells #[.slice A0_0 l0_0.length c0_0] 62 (0, 0)) (by exact kP BK300.out) hg (Kd.S_ne HO_10.out BK300.out (by decide)));have n2_ := Aside0.mk (hb);have n3_ := Aside0.mk (ho);clear HO_7;clear BK300;clear HB;clear HO_10;clear HO_13;have HO_7 := n0_;have BK300 := n1_;have HB := n2_;have HO329 := n3_;clear n0_ n1_ n2_ n3_;clear ho hb hg hat))
             go_roundg k3
             case measure => have := HK1.out;have := HK2.out;have := HK3.out;omega
             case rel => exact ⟨(y327), (wrap64 (x56_2 + 1)), (by first | rfl | (simp;done) | (simp [*];done)), H', ⟨by have := HK1.out;have := HK2.out;have := HK3.out;omega⟩, ⟨by refine rP ?_;exact Kd.R_mono HO_7.out (fun _ hk => trivial)⟩, ⟨by (with_reducible repeat (first | apply Kd.S_alloc | apply Kd.S_drewN | apply Kd.S_drew));exact HO329.out⟩, ⟨by exact kP BK300.out⟩, ⟨by exact bB⟩⟩
            ·rw [if_neg c26] at H
             exact absurd H (by simp)
        ·rw [if_neg c19] at H
         exact absurd H (by simp)
       ·rw [if_neg c18] at H
        exact absurd H (by simp)
      ·rw [if_neg c17] at H
       have c17b0 : decide (x56_2 < (l1.length : Int)) = false := decide_eq_false c17
       clear c17
       simp only [Option.some.injEq, Prod.mk.injEq] at H
       obtain ⟨rfl, rfl⟩ := H
       go_wp2
       go_ret2
       exact ⟨_, by first | rfl | (simp [errW_none, errW_some] <;> rfl) | (simp [*, errW_none, errW_some] <;> rfl), by (with_reducible repeat (first | apply Kd.S_alloc | apply Kd.S_drewN | apply Kd.S_drew));exact Kd.S_mono HO_10.out (fun _ hk => trivial), by exact bB⟩
   ·rw [if_neg c14] at H
    have c14b0 : (x6_1 == t309) = false := beq_eq_false_iff_ne.mpr c14
    have c14b1 : (x6_1 != t309) = true := bne_iff_ne.mpr c14
    replace H := Option.bind_eq_some_iff.mp H
    obtain ⟨t310, A290, H⟩ := H
    replace H : ((idxO (chQ l0_0 x6_1) t310 0).bind fun t313 => (if t313 < 0 then (some (([] : List (List Int)), false)) else ((impl_setOf.f k1 x6_1).bind fun t314 => (if 0 ≤ t313 then (if t313 < (t314.length : Int) then (if 0 ≤ (rd t314 t313) then (if (rd t314 t313) < (l0_0.length : Int) then ((bits_TrailingZeros.f (IntKind.u64.wrap (Go.bits .andNot .i64 (rd l0_0 (rd t314 t313)) x6_1))).bind fun t319 => (if (rd t314 t313) < (x7_1.length : Int) then ((some (x7_1.set ((rd t314 t313) : Int).toNat t319 : List Int)).bind fun y320 => (if 0 ≤ (rd y320 (rd t314 t313)) then (impl_net_chains.l0 k1 l1 (Go.bits .or .i64 x6_1 (shl .i64 1 (rd y320 (rd t314 t313)))) y320 l0_0) else (none))) else (none))) else (none)) else (none)) else (none)) else (none))))) = some (r1, r2) := H
    have A29 := Aside0.mk A290
    clear A290
    replace H := Option.bind_eq_some_iff.mp H
    obtain ⟨t313, A300, H⟩ := H
    replace H : (if t313 < 0 then (some (([] : List (List Int)), false)) else ((impl_setOf.f k1 x6_1).bind fun t314 => (if 0 ≤ t313 then (if t313 < (t314.length : Int) then (if 0 ≤ (rd t314 t313) then (if (rd t314 t313) < (l0_0.length : Int) then ((bits_TrailingZeros.f (IntKind.u64.wrap (Go.bits .andNot .i64 (rd l0_0 (rd t314 t313)) x6_1))).bind fun t319 => (if (rd t314 t313) < (x7_1.length : Int) then ((some (x7_1.set ((rd t314 t313) : Int).toNat t319 : List Int)).bind fun y320 => (if 0 ≤ (rd y320 (rd t314 t313)) then (impl_net_chains.l0 k1 l1 (Go.bits .or .i64 x6_1 (shl .i64 1 (rd y320 (rd t314 t313)))) y320 l0_0) else (none))) else (none))) else (none)) else (none)) else (none)) else (none)))) = some (r1, r2) := H
    have A30 := Aside0.mk A300
    clear A300
    by_cases c31 : t313 < 0
    ·rw [if_pos c31] at H
     have c31b0 : decide (t313 < 0) = true := decide_eq_true c31
     clear c31
     simp only [Option.some.injEq, Prod.mk.injEq] at H
     obtain ⟨rfl, rfl⟩ := H
     try go_wp2
     have n0_ := Aside0.mk (Kd.R_drew HO_7.out)
     have n1_ := Aside0.mk (blk_drew BK300.out);have nC_ := Aside0.mk (blk_drew BKC.out)
     have n2_ := Aside0.mk (below_drew1 HB.out)
     clear HO_7
     clear BK300 BKC
     clear HB
     have HO_7 := n0_
     have BK300 := n1_;have BKC := nC_;clear nC_
     have HB := n2_
     clear n0_ n1_ n2_
     refine start_ (n := 4) (S := fun w' => w'.cell? ⟨gb300, 0, none⟩ = some (.slice A0_0 l0_0.length c0_0) ∧ w'.cell? ⟨gbc, 0, none⟩ = some (.int .i64 x6_1)) (ds := []) #[false,false,false,false] (by kernel_rfl) rfl rfl ⟨(blk_cell BK300.out 0).trans rfl, (blk_cell BKC.out 0).trans rfl⟩ (fun hHeld => ?_)
     generalize wr.drew = w32 at HO_7 BK300 BKC HB hHeld ⊢
     refine take_ (i := 0) (N := some 20) (v := ?_) (a' := ?_) #[true,false,false,false] rfl rfl (by kernel_rfl) (fun _ _ _ h => h) (Or.inl ⟨by rfl, ?_⟩) hHeld ?_ ?_
     rotate_left
     ·rintro w' ⟨s0, s1⟩
      go_simp
      with_reducible rfl
     rotate_left
     ·simp only [Act.put, List.setIfInBounds_toArray, List.set_cons_zero, List.set_cons_succ, i64_w, i32_w]
      rfl
     refine take_ (i := 1) (N := some 21) (v := ?_) (a' := ?_) #[true,true,false,false] rfl rfl (by kernel_rfl) (fun _ _ _ h => h) (Or.inl ⟨by rfl, ?_⟩) hHeld ?_ ?_
     rotate_left
     ·rintro w' ⟨s0, s1⟩
      go_simp
      with_reducible rfl
     rotate_left
     ·simp only [Act.put, List.setIfInBounds_toArray, List.set_cons_zero, List.set_cons_succ, i64_w, i32_w]
      rfl
     refine one_ (i := 2) (N := some 22) #[true,true,true,false] rfl rfl (by kernel_rfl) (by decide) (fun K hK => ?_)
     refine goes_ Tryd.func46 (by kernel_rfl) rfl #[.agg #[.slice A0_0 l0_0.length c0_0]] (by rfl) rfl rfl mM ?_
     with_reducible refine (impl_net_all.calls _ _ l0_0 t309 _ ?side1 ?side2 A13.out).mono ?_
     (case side1 => exact cP (Kd.C_below HR0_0.out HB.out))
     (case side2 => exact HC0_0.out)
     rintro e w33 ⟨rfl, hb⟩
     refine ⟨_, rfl, ?_⟩
     have n0_ := Aside0.mk (Kd.R_below (by exact rP HO_7.out) hb)
     have n1_ := Aside0.mk (blk_below (g := gb300) (o := .cells #[.slice A0_0 l0_0.length c0_0] 62 (0, 0)) (by exact kP BK300.out) hb);have nC_ := Aside0.mk (kB hb BKC.out)
     have n2_ := Aside0.mk (below_step (by exact bB) hb)
     clear HO_7
     clear BK300 BKC
     clear HB
     have HO_7 := n0_
     have BK300 := n1_;have BKC := nC_;clear nC_
     have HB := n2_
     clear n0_ n1_ n2_
     (try clear hb)
     (try clear hb2)
     (try clear hk)
     (try clear hi)
     refine hK.out _ _ ⟨(blk_cell BK300.out 0).trans rfl, (blk_cell BKC.out 0).trans rfl⟩ (fun hHeld => ?_)
     clear hK K
     refine norm_ (a' := ?_) ?_ ?_
     rotate_left
     ·show Act.put _ (some 22) _ = _
      simp only [Act.put, List.setIfInBounds_toArray, List.set_cons_zero, List.set_cons_succ, i64_w, i32_w]
      rfl
     refine pure_ (i := 3) (N := some 23) (v := ?_) (a' := ?_) #[true,true,true,true] rfl rfl (by kernel_rfl) (fun _ _ _ h => h) (Or.inl ⟨by rfl, ?_⟩) ?_ ?_
     rotate_left
     ·intro w'
      go_simp
      with_reducible rfl
     rotate_left
     ·simp only [Act.put, List.setIfInBounds_toArray, List.set_cons_zero, List.set_cons_succ, i64_w, i32_w]
      rfl
     refine done_ (by kernel_rfl) ?_
     have hczc_ := (blk_cell BKC.out 0).trans (show (#[Value.int .i64 x6_1] : Array Value)[0]? = some (.int .i64 x6_1) from rfl)
     try go_wp2_with (first | ((with_reducible refine gate_callee (f := 48) rfl ?_);refine goesL_ (some 25) rfl rfl Tryd.func48 (by kernel_rfl) rfl #[.int .i64 x6_1] rfl mM ?_;(with_reducible refine (impl_setOf.calls k1 x6_1 t310 _ A29.out).mono ?_);rintro e w34 ⟨v311, rfl, ho0, hb⟩;refine ⟨_, rfl, ?_⟩;have n0_ := Aside0.mk (Kd.R_elder' (by exact rP HO_7.out) (Kd.R_base ho0) hb);have n1_ := Aside0.mk (Kd.R_lower (Kd.R_new' ho0 (Kd.R_lt (by exact rP HO_7.out))) (below_size (by exact bB)));have n2_ := Aside0.mk (blk_below (g := gb300) (o := .cells #[.slice A0_0 l0_0.length c0_0] 62 (0, 0)) (by exact kP BK300.out) hb);have nC_ := Aside0.mk (kB hb BKC.out);have n3_ := Aside0.mk (below_step (by exact bB) hb);clear HO_7;clear BK300 BKC;clear HB;have HO_7 := n0_;have HO312 := n1_;have BK300 := n2_;have BKC := nC_;clear nC_;have HB := n3_;clear n0_ n1_ n2_ n3_;(try clear hb);(try clear hb2);(try clear hk);(try clear hi);(try clear ho0);obtain ⟨Ao35, co35, eo35⟩ := Kd.R_slice HO312.out;subst eo35) | ((with_reducible refine gate_callee (f := 104) rfl ?_);refine goesL_ (some 27) rfl rfl Tryd.func104 (by kernel_rfl) rfl #[.slice Ao35 t310.length co35, .func (.func 105) #[] #[.pointer (some ⟨gb300, 0, none⟩), .pointer (some ⟨gbc, 0, none⟩)]] rfl mM ?_;refine (indexFuncO_calls 105 _ (enters_of Tryd.func105 (by kernel_rfl) rfl) (chQ l0_0 x6_1) _ _ t310 _ (Kd.R_reads' HO312.out).2.2 t313 A30.out (fun x b W hq hb_ => ch_fn gb300 gbc A0_0 c0_0 l0_0 x6_1 x b W (at_below hb_ ((blk_cell BK300.out 0).trans rfl)) (at_below hb_ ((blk_cell BKC.out 0).trans rfl)) (Kd.C_below (Kd.C_below HR0_0.out HB.out) hb_) hq)).mono ?_;rintro e wi_ ⟨rfl, hb⟩;refine ⟨_, rfl, ?_⟩;have n0_ := Aside0.mk (Kd.R_below HO_7.out hb);have n1_ := Aside0.mk (Kd.R_below HO312.out hb);have n2_ := Aside0.mk (kB hb BK300.out);have nC_ := Aside0.mk (kB hb BKC.out);have n3_ := Aside0.mk (below_step HB.out hb);clear HO_7 HO312 BK300 BKC HB hb hczc_;have HO_7 := n0_;have HO312 := n1_;have BK300 := n2_;have BKC := nC_;have HB := n3_;clear n0_ n1_ n2_ n3_ nC_;have hczc_ := (blk_cell BKC.out 0).trans (show (#[Value.int .i64 x6_1] : Array Value)[0]? = some (.int .i64 x6_1) from rfl)))
     go_ret2
     exact ⟨_, by first | rfl | (simp [errW_none, errW_some] <;> rfl) | (simp [*, errW_none, errW_some] <;> rfl), by first | exact Kd.S_nil _ _ _ _ _ | exact Kd.N_nil _ _ _ _ _ | exact Kd.V_nil _ _ _ _ _ | exact Kd.Q_nil _ _ _ _ _ | exact Kd.R_nil _ _ _ _ _, by exact bB⟩
    ·rw [if_neg c31] at H
     have c31b0 : decide (t313 < 0) = false := decide_eq_false c31
     clear c31
     replace H := Option.bind_eq_some_iff.mp H
     obtain ⟨t314, A360, H⟩ := H
     replace H : (if 0 ≤ t313 then (if t313 < (t314.length : Int) then (if 0 ≤ (rd t314 t313) then (if (rd t314 t313) < (l0_0.length : Int) then ((bits_TrailingZeros.f (IntKind.u64.wrap (Go.bits .andNot .i64 (rd l0_0 (rd t314 t313)) x6_1))).bind fun t319 => (if (rd t314 t313) < (x7_1.length : Int) then ((some (x7_1.set ((rd t314 t313) : Int).toNat t319 : List Int)).bind fun y320 => (if 0 ≤ (rd y320 (rd t314 t313)) then (impl_net_chains.l0 k1 l1 (Go.bits .or .i64 x6_1 (shl .i64 1 (rd y320 (rd t314 t313)))) y320 l0_0) else (none))) else (none))) else (none)) else (none)) else (none)) else (none)) = some (r1, r2) := H
     have A36 := Aside0.mk A360
     clear A360
     by_cases c37 : 0 ≤ t313
     ·rw [if_pos c37] at H
      have c37b0 : decide (0 ≤ t313) = true := decide_eq_true c37
      clear c37
      by_cases c38 : t313 < (t314.length : Int)
      ·rw [if_pos c38] at H
       have c38b0 : decide (t313 < (t314.length : Int)) = true := decide_eq_true c38
       clear c38
       by_cases c39 : 0 ≤ (rd t314 t313)
       ·rw [if_pos c39] at H
        have c39b0 : decide (0 ≤ (rd t314 t313)) = true := decide_eq_true c39
        clear c39
        by_cases c40 : (rd t314 t313) < (l0_0.length : Int)
        ·rw [if_pos c40] at H
         have c40b0 : decide ((rd t314 t313) < (l0_0.length : Int)) = true := decide_eq_true c40
         clear c40
         replace H := Option.bind_eq_some_iff.mp H
         obtain ⟨t319, A410, H⟩ := H
         replace H : (if (rd t314 t313) < (x7_1.length : Int) then ((some (x7_1.set ((rd t314 t313) : Int).toNat t319 : List Int)).bind fun y320 => (if 0 ≤ (rd y320 (rd t314 t313)) then (impl_net_chains.l0 k1 l1 (Go.bits .or .i64 x6_1 (shl .i64 1 (rd y320 (rd t314 t313)))) y320 l0_0) else (none))) else (none)) = some (r1, r2) := H
         have A41 := Aside0.mk A410
         clear A410
         by_cases c42 : (rd t314 t313) < (x7_1.length : Int)
         ·rw [if_pos c42] at H
          have c42b0 : decide ((rd t314 t313) < (x7_1.length : Int)) = true := decide_eq_true c42
          clear c42
          obtain ⟨y320, hy320⟩ : ∃ y_ : List Int, y_ = (x7_1.set ((rd t314 t313) : Int).toNat t319) := ⟨_, rfl⟩
          replace H : (if 0 ≤ (rd y320 (rd t314 t313)) then (impl_net_chains.l0 k1 l1 (Go.bits .or .i64 x6_1 (shl .i64 1 (rd y320 (rd t314 t313)))) y320 l0_0) else (none)) = some (r1, r2) := by first | (rw [hy320];with_reducible exact H) | (have H2_ := (Option.bind_some _ _).symm.trans H;rw [hy320];with_reducible exact H2_) | (have H2_ := (Option.bind_some _ _).symm.trans H;with_reducible exact H2_) | with_reducible exact H | (rw [hy320];exact H) | exact H
          have Ny320 := Aside0.mk hy320
          clear hy320
          by_cases c44 : 0 ≤ (rd y320 (rd t314 t313))
          ·rw [if_pos c44] at H
           have c44b0 := eq_true c44
           have c44b1 : decide (0 ≤ (rd y320 (rd t314 t313))) = true := decide_eq_true c44
           clear c44
           obtain ⟨ji45, hji45⟩ : ∃ j_ : Int, (shl .i64 1 (rd y320 (rd t314 t313))) = j_ := ⟨_, rfl⟩
           replace H : (impl_net_chains.l0 k1 l1 (Go.bits .or .i64 x6_1 (ji45)) y320 l0_0) = some (r1, r2) := by first | (rw [hji45] at H;exact H) | (simp only [hji45] at H ⊢;exact H)
           (try rw [hji45] at A13)
           (try rw [hji45] at A29)
           (try rw [hji45] at A30)
           (try rw [hji45] at A36)
           (try rw [hji45] at A41)
           have hji45_ : (IntKind.i64.wrap (1 * 2 ^ min (rd y320 (rd t314 t313)).toNat 64)) = ji45 := hji45
           have hji45z : (rd y320 (rd t314 t313)) ≤ 64 → (IntKind.i64.wrap (1 * 2 ^ (rd y320 (rd t314 t313)).toNat)) = ji45 := shl_small hji45
           have hji45u : (IntKind.i64.wrap (2 ^ min (rd y320 (rd t314 t313)).toNat 64)) = ji45 := by have h_ := hji45_;rw [Int.one_mul] at h_;exact h_
           have hji45v : (rd y320 (rd t314 t313)) ≤ 64 → (IntKind.i64.wrap (2 ^ (rd y320 (rd t314 t313)).toNat)) = ji45 := fun hle_ => by have h_ := hji45z hle_;rw [Int.one_mul] at h_;exact h_
           have hji45y : (wrap64 (1 * 2 ^ min (rd y320 (rd t314 t313)).toNat 64)) = ji45 := (i64_w _).symm.trans hji45_
           have hji45x : (rd y320 (rd t314 t313)) ≤ 64 → (wrap64 (1 * 2 ^ (rd y320 (rd t314 t313)).toNat)) = ji45 := fun h_ => (i64_w _).symm.trans (hji45z h_)
           have H' := Aside0.mk H
           clear H
           try go_wp2
           have n0_ := Aside0.mk (Kd.R_drew HO_7.out)
           have n1_ := Aside0.mk (blk_drew BK300.out);have nC_ := Aside0.mk (blk_drew BKC.out)
           have n2_ := Aside0.mk (below_drew1 HB.out)
           clear HO_7
           clear BK300 BKC
           clear HB
           have HO_7 := n0_
           have BK300 := n1_;have BKC := nC_;clear nC_
           have HB := n2_
           clear n0_ n1_ n2_
           refine start_ (n := 4) (S := fun w' => w'.cell? ⟨gb300, 0, none⟩ = some (.slice A0_0 l0_0.length c0_0) ∧ w'.cell? ⟨gbc, 0, none⟩ = some (.int .i64 x6_1)) (ds := []) #[false,false,false,false] (by kernel_rfl) rfl rfl ⟨(blk_cell BK300.out 0).trans rfl, (blk_cell BKC.out 0).trans rfl⟩ (fun hHeld => ?_)
           generalize wr.drew = w46 at HO_7 BK300 BKC HB hHeld ⊢
           refine take_ (i := 0) (N := some 20) (v := ?_) (a' := ?_) #[true,false,false,false] rfl rfl (by kernel_rfl) (fun _ _ _ h => h) (Or.inl ⟨by rfl, ?_⟩) hHeld ?_ ?_
           rotate_left
           ·rintro w' ⟨s0, s1⟩
            go_simp
            with_reducible rfl
           rotate_left
           ·simp only [Act.put, List.setIfInBounds_toArray, List.set_cons_zero, List.set_cons_succ, i64_w, i32_w]
            rfl
           refine take_ (i := 1) (N := some 21) (v := ?_) (a' := ?_) #[true,true,false,false] rfl rfl (by kernel_rfl) (fun _ _ _ h => h) (Or.inl ⟨by rfl, ?_⟩) hHeld ?_ ?_
           rotate_left
           ·rintro w' ⟨s0, s1⟩
            go_simp
            with_reducible rfl
           rotate_left
           ·simp only [Act.put, List.setIfInBounds_toArray, List.set_cons_zero, List.set_cons_succ, i64_w, i32_w]
            rfl
           refine one_ (i := 2) (N := some 22) #[true,true,true,false] rfl rfl (by kernel_rfl) (by decide) (fun K hK => ?_)
           refine goes_ Tryd.func46 (by kernel_rfl) rfl #[.agg #[.slice A0_0 l0_0.length c0_0]] (by rfl) rfl rfl mM ?_
           with_reducible refine (impl_net_all.calls _ _ l0_0 t309 _ ?side1 ?side2 A13.out).mono ?_
           (case side1 => exact cP (Kd.C_below HR0_0.out HB.out))
           (case side2 => exact HC0_0.out)
           rintro e w47 ⟨rfl, hb⟩
           refine ⟨_, rfl, ?_⟩
           have n0_ := Aside0.mk (Kd.R_below (by exact rP HO_7.out) hb)
           have n1_ := Aside0.mk (blk_below (g := gb300) (o := .cells #[.slice A0_0 l0_0.length c0_0] 62 (0, 0)) (by exact kP BK300.out) hb);have nC_ := Aside0.mk (kB hb BKC.out)
           have n2_ := Aside0.mk (below_step (by exact bB) hb)
           clear HO_7
           clear BK300 BKC
           clear HB
           have HO_7 := n0_
           have BK300 := n1_;have BKC := nC_;clear nC_
           have HB := n2_
           clear n0_ n1_ n2_
           (try clear hb)
           (try clear hb2)
           (try clear hk)
           (try clear hi)
           refine hK.out _ _ ⟨(blk_cell BK300.out 0).trans rfl, (blk_cell BKC.out 0).trans rfl⟩ (fun hHeld => ?_)
           clear hK K
           refine norm_ (a' := ?_) ?_ ?_
           rotate_left
           ·show Act.put _ (some 22) _ = _
            simp only [Act.put, List.setIfInBounds_toArray, List.set_cons_zero, List.set_cons_succ, i64_w, i32_w]
            rfl
           refine pure_ (i := 3) (N := some 23) (v := ?_) (a' := ?_) #[true,true,true,true] rfl rfl (by kernel_rfl) (fun _ _ _ h => h) (Or.inl ⟨by rfl, ?_⟩) ?_ ?_
           rotate_left
           ·intro w'
            go_simp
            with_reducible rfl
           rotate_left
           ·simp only [Act.put, List.setIfInBounds_toArray, List.set_cons_zero, List.set_cons_succ, i64_w, i32_w]
            rfl
           refine done_ (by kernel_rfl) ?_
           have hczc_ := (blk_cell BKC.out 0).trans (show (#[Value.int .i64 x6_1] : Array Value)[0]? = some (.int .i64 x6_1) from rfl)
           try go_wp2_with (first | ((with_reducible refine gate_callee (f := 48) rfl ?_);refine goesL_ (some 25) rfl rfl Tryd.func48 (by kernel_rfl) rfl #[.int .i64 x6_1] rfl mM ?_;(with_reducible refine (impl_setOf.calls k1 x6_1 t310 _ A29.out).mono ?_);rintro e w48 ⟨v311, rfl, ho0, hb⟩;refine ⟨_, rfl, ?_⟩;have n0_ := Aside0.mk (Kd.R_elder' (by exact rP HO_7.out) (Kd.R_base ho0) hb);have n1_ := Aside0.mk (Kd.R_lower (Kd.R_new' ho0 (Kd.R_lt (by exact rP HO_7.out))) (below_size (by exact bB)));have n2_ := Aside0.mk (blk_below (g := gb300) (o := .cells #[.slice A0_0 l0_0.length c0_0] 62 (0, 0)) (by exact kP BK300.out) hb);have nC_ := Aside0.mk (kB hb BKC.out);have n3_ := Aside0.mk (below_step (by exact bB) hb);clear HO_7;clear BK300 BKC;clear HB;have HO_7 := n0_;have HO312 := n1_;have BK300 := n2_;have BKC := nC_;clear nC_;have HB := n3_;clear n0_ n1_ n2_ n3_;(try clear hb);(try clear hb2);(try clear hk);(try clear hi);(try clear ho0);obtain ⟨Ao49, co49, eo49⟩ := Kd.R_slice HO312.out;subst eo49) | ((with_reducible refine gate_callee (f := 104) rfl ?_);refine goesL_ (some 27) rfl rfl Tryd.func104 (by kernel_rfl) rfl #[.slice Ao49 t310.length co49, .func (.func 105) #[] #[.pointer (some ⟨gb300, 0, none⟩), .pointer (some ⟨gbc, 0, none⟩)]] rfl mM ?_;refine (indexFuncO_calls 105 _ (enters_of Tryd.func105 (by kernel_rfl) rfl) (chQ l0_0 x6_1) _ _ t310 _ (Kd.R_reads' HO312.out).2.2 t313 A30.out (fun x b W hq hb_ => ch_fn gb300 gbc A0_0 c0_0 l0_0 x6_1 x b W (at_below hb_ ((blk_cell BK300.out 0).trans rfl)) (at_below hb_ ((blk_cell BKC.out 0).trans rfl)) (Kd.C_below (Kd.C_below HR0_0.out HB.out) hb_) hq)).mono ?_;rintro e wi_ ⟨rfl, hb⟩;refine ⟨_, rfl, ?_⟩;have n0_ := Aside0.mk (Kd.R_below HO_7.out hb);have n1_ := Aside0.mk (Kd.R_below HO312.out hb);have n2_ := Aside0.mk (kB hb BK300.out);have nC_ := Aside0.mk (kB hb BKC.out);have n3_ := Aside0.mk (below_step HB.out hb);clear HO_7 HO312 BK300 BKC HB hb hczc_;have HO_7 := n0_;have HO312 := n1_;have BK300 := n2_;have BKC := nC_;have HB := n3_;clear n0_ n1_ n2_ n3_ nC_;have hczc_ := (blk_cell BKC.out 0).trans (show (#[Value.int .i64 x6_1] : Array Value)[0]? = some (.int .i64 x6_1) from rfl)) | ((with_reducible refine gate_callee (f := 48) rfl ?_);refine goesL_ (some 31) rfl rfl Tryd.func48 (by kernel_rfl) rfl #[.int .i64 x6_1] rfl mM ?_;(with_reducible refine (impl_setOf.calls k1 x6_1 t314 _ A36.out).mono ?_);rintro e w50 ⟨v315, rfl, ho0, hb⟩;refine ⟨_, rfl, ?_⟩;have n0_ := Aside0.mk (Kd.R_elder' (by exact rP HO_7.out) (Kd.R_base ho0) hb);have n1_ := Aside0.mk (Kd.R_elder' (by exact rP HO312.out) (Kd.R_base ho0) hb);have n2_ := Aside0.mk (Kd.R_lower (Kd.R_new' (Kd.R_new' ho0 (Kd.R_lt (by exact rP HO_7.out))) (Kd.R_lt (by exact rP HO312.out))) (below_size (by exact bB)));have n3_ := Aside0.mk (blk_below (g := gb300) (o := .cells #[.slice A0_0 l0_0.length c0_0] 62 (0, 0)) (by exact kP BK300.out) hb);have nC_ := Aside0.mk (kB hb BKC.out);have n4_ := Aside0.mk (below_step (by exact bB) hb);clear HO_7;clear HO312;clear BK300 BKC;clear HB;have HO_7 := n0_;have HO312 := n1_;have HO316 := n2_;have BK300 := n3_;have BKC := nC_;clear nC_;have HB := n4_;clear n0_ n1_ n2_ n3_ n4_;(try clear hb);(try clear hb2);(try clear hk);(try clear hi);(try clear ho0);obtain ⟨Ao51, co51, eo51⟩ := Kd.R_slice HO316.out;subst eo51;have p317 : 0 ≤ (t313 : Int) := oA;have q317 : t313 < (t314.length : Int) := oA;obtain ⟨ad317, e317, hx317_0⟩ := Kd.at_int (Kd.R_reads' HO316.out).2.2 t313 p317 q317;cases e317;replace p317 := eq_true p317;replace q317 := eq_true q317))
           have n0_ := Aside0.mk (Kd.R_drew HO_7.out)
           have n1_ := Aside0.mk (Kd.R_drew HO312.out)
           have n2_ := Aside0.mk (Kd.R_drew HO316.out)
           have n3_ := Aside0.mk (blk_drew BK300.out);have nC_ := Aside0.mk (blk_drew BKC.out)
           have n4_ := Aside0.mk (below_drew1 HB.out)
           clear HO_7
           clear HO312
           clear HO316
           clear BK300 BKC
           clear HB
           have HO_7 := n0_
           have HO312 := n1_
           have HO316 := n2_
           have BK300 := n3_;have BKC := nC_;clear nC_
           have HB := n4_
           clear n0_ n1_ n2_ n3_ n4_
           have p318 : 0 ≤ ((rd t314 t313) : Int) := oA
           have q318 : (rd t314 t313) < (l0_0.length : Int) := oA
           obtain ⟨ad318, e318, hx318_0⟩ := Kd.at_int HR0_0.out (rd t314 t313) p318 q318
           have hw318_0 := hx318_0
           cases e318
           replace hx318_0 := (HB.out.cell (World.block_lt_of_cell? w _ hx318_0)).trans hx318_0
           replace p318 := eq_true p318
           replace q318 := eq_true q318
           refine start_ (n := 13) (S := fun w' => w'.cell? ⟨gb300, 0, none⟩ = some (.slice (some ad318) l0_0.length c0_0) ∧ w'.cell? (ad318.add ((rd t314 t313)).toNat) = some (.int .i64 (rd l0_0 (rd t314 t313))) ∧ w'.cell? ⟨gbc, 0, none⟩ = some (.int .i64 x6_1)) (ds := [12]) #[false,false,false,false,false,false,false,false,false,false,false,false,false] (by kernel_rfl) rfl rfl ⟨(blk_cell BK300.out 0).trans rfl, ((HB.out.cell (World.block_lt_of_cell? w _ hw318_0)).trans hw318_0), (blk_cell BKC.out 0).trans rfl⟩ (fun hHeld => ?_);refine with_tabW impl_net_chains.tab8 impl_net_chains.bits8 (fun HT_ HW_ => ?_)
           generalize w50.drew = w52 at HO_7 HO312 HO316 BK300 BKC HB hx318_0 hHeld ⊢
           refine pure_ (i := 0) (N := some 35) (v := ?_) (a' := ?_) #[true,false,false,false,false,false,false,false,false,false,false,false,false] rfl rfl (any_of HT_.out (by kernel_rfl)) (fun _ _ _ h => h) (Or.inl ⟨by rfl, ?_⟩) ?_ ?_
           rotate_left
           ·intro w'
            go_simp
            with_reducible rfl
           rotate_left
           ·simp only [Act.put, List.setIfInBounds_toArray, List.set_cons_zero, List.set_cons_succ, i64_w, i32_w]
            rfl
           refine pure_ (i := 1) (N := some 36) (v := ?_) (a' := ?_) #[true,true,false,false,false,false,false,false,false,false,false,false,false] rfl rfl (any_of HT_.out (by kernel_rfl)) (fun _ _ _ h => h) (Or.inl ⟨by rfl, ?_⟩) ?_ ?_
           rotate_left
           ·intro w'
            go_simp
            with_reducible rfl
           rotate_left
           ·simp only [Act.put, List.setIfInBounds_toArray, List.set_cons_zero, List.set_cons_succ, i64_w, i32_w]
            rfl
           refine pure_ (i := 2) (N := some 37) (v := ?_) (a' := ?_) #[true,true,true,false,false,false,false,false,false,false,false,false,false] rfl rfl (any_of HT_.out (by kernel_rfl)) (fun _ _ _ h => h) (Or.inl ⟨by rfl, ?_⟩) ?_ ?_
           rotate_left
           ·intro w'
            go_simp
            with_reducible rfl
           rotate_left
           ·simp only [Act.put, List.setIfInBounds_toArray, List.set_cons_zero, List.set_cons_succ, i64_w, i32_w]
            rfl
           refine pure_ (i := 4) (N := some 39) (v := ?_) (a' := ?_) #[true,true,true,false,true,false,false,false,false,false,false,false,false] rfl rfl (any_of HT_.out (by kernel_rfl)) (fun _ _ _ h => h) (Or.inl ⟨by rfl, ?_⟩) ?_ ?_
           rotate_left
           ·intro w'
            go_simp
            with_reducible rfl
           rotate_left
           ·simp only [Act.put, List.setIfInBounds_toArray, List.set_cons_zero, List.set_cons_succ, i64_w, i32_w]
            rfl
           refine take_ (i := 7) (N := some 42) (v := ?_) (a' := ?_) #[true,true,true,false,true,false,false,true,false,false,false,false,false] rfl rfl (take_ofW HT_.out HW_.out (by kernel_rfl)) (fun _ _ _ h => h) (Or.inl ⟨by rfl, ?_⟩) hHeld ?_ ?_
           rotate_left
           ·rintro w' ⟨s0, s1, s2⟩
            go_simp
            with_reducible rfl
           rotate_left
           ·simp only [Act.put, List.setIfInBounds_toArray, List.set_cons_zero, List.set_cons_succ, i64_w, i32_w]
            rfl
           refine take_ (i := 3) (N := some 38) (v := ?_) (a' := ?_) #[true,true,true,true,true,false,false,true,false,false,false,false,false] rfl rfl (take_ofW HT_.out HW_.out (by kernel_rfl)) (fun _ _ _ h => h) (Or.inl ⟨by rfl, ?_⟩) hHeld ?_ ?_
           rotate_left
           ·rintro w' ⟨s0, s1, s2⟩
            go_simp
            with_reducible rfl
           rotate_left
           ·simp only [Act.put, List.setIfInBounds_toArray, List.set_cons_zero, List.set_cons_succ, i64_w, i32_w]
            rfl
           refine pure_ (i := 5) (N := some 40) (v := ?_) (a' := ?_) #[true,true,true,true,true,true,false,true,false,false,false,false,false] rfl rfl (any_of HT_.out (by kernel_rfl)) (fun _ _ _ h => h) (Or.inl ⟨by rfl, ?_⟩) ?_ ?_
           rotate_left
           ·intro w'
            go_simp
            with_reducible rfl
           rotate_left
           ·simp only [Act.put, List.setIfInBounds_toArray, List.set_cons_zero, List.set_cons_succ, i64_w, i32_w]
            rfl
           refine take_ (i := 6) (N := some 41) (v := ?_) (a' := ?_) #[true,true,true,true,true,true,true,true,false,false,false,false,false] rfl rfl (take_ofW HT_.out HW_.out (by kernel_rfl)) (fun _ _ _ h => h) (Or.inl ⟨by rfl, ?_⟩) hHeld ?_ ?_
           rotate_left
           ·rintro w' ⟨s0, s1, s2⟩
            go_simp
            with_reducible rfl
           rotate_left
           ·simp only [Act.put, List.setIfInBounds_toArray, List.set_cons_zero, List.set_cons_succ, i64_w, i32_w]
            rfl
           refine pure_ (i := 8) (N := some 43) (v := ?_) (a' := ?_) #[true,true,true,true,true,true,true,true,true,false,false,false,false] rfl rfl (any_of HT_.out (by kernel_rfl)) (fun _ _ _ h => h) (Or.inl ⟨by rfl, ?_⟩) ?_ ?_
           rotate_left
           ·intro w'
            go_simp
            with_reducible rfl
           rotate_left
           ·simp only [Act.put, List.setIfInBounds_toArray, List.set_cons_zero, List.set_cons_succ, i64_w, i32_w]
            rfl
           refine pure_ (i := 9) (N := some 44) (v := ?_) (a' := ?_) #[true,true,true,true,true,true,true,true,true,true,false,false,false] rfl rfl (any_of HT_.out (by kernel_rfl)) (fun _ _ _ h => h) (Or.inl ⟨by rfl, ?_⟩) ?_ ?_
           rotate_left
           ·intro w'
            go_simp
            with_reducible rfl
           rotate_left
           ·simp only [Act.put, List.setIfInBounds_toArray, List.set_cons_zero, List.set_cons_succ, i64_w, i32_w]
            rfl
           refine one_ (i := 10) (N := some 45) #[true,true,true,true,true,true,true,true,true,true,true,false,false] rfl rfl (one_of HT_.out (by kernel_rfl)) (by decide) (fun K hK => ?_)
           refine goes_ Tryd.func47 (by kernel_rfl) rfl #[.int .u64 (IntKind.u64.wrap (Go.bits .andNot .i64 (rd l0_0 (rd t314 t313)) x6_1))] (by rfl) rfl rfl mM ?_
           with_reducible refine (bits_TrailingZeros.calls (IntKind.u64.wrap (Go.bits .andNot .i64 (rd l0_0 (rd t314 t313)) x6_1)) t319 _ ?sideT A41.out).mono ?_
           (case sideT => exact tabG_below HT.out (by exact bB))
           rintro e w53 ⟨rfl, hb⟩
           refine ⟨_, rfl, ?_⟩
           have n0_ := Aside0.mk (Kd.R_below (by exact rP HO_7.out) hb)
           have n1_ := Aside0.mk (Kd.R_below (by exact rP HO312.out) hb)
           have n2_ := Aside0.mk (Kd.R_below (by exact rP HO316.out) hb)
           have n3_ := Aside0.mk (blk_below (g := gb300) (o := .cells #[.slice (some ad318) l0_0.length c0_0] 62 (0, 0)) (by exact kP BK300.out) hb);have nC_ := Aside0.mk (kB hb BKC.out)
           have n4_ := Aside0.mk (below_step (by exact bB) hb)
           clear HO_7
           clear HO312
           clear HO316
           clear BK300 BKC
           clear HB
           have HO_7 := n0_
           have HO312 := n1_
           have HO316 := n2_
           have BK300 := n3_;have BKC := nC_;clear nC_
           have HB := n4_
           clear n0_ n1_ n2_ n3_ n4_
           (try clear hb)
           (try clear hb2)
           (try clear hk)
           (try clear hi)
           have p43 : 0 ≤ ((rd t314 t313) : Int) := oA
           have q43 : ((rd t314 t313) : Int) < ((x7_1.length : Int) : Int) := oA
           obtain ⟨go43, co43, eo43, gb43, gl43, cl43, HG43⟩ := Kd.R_form HO_7.out (by omega)
           (first | cases eo43 | (injection eo43 with ea_ en_ ec_;(first | subst ea_ | (injection ea_ with ea_;subst ea_));subst ec_;clear en_))
           have GB43 := Aside0.mk gb43
           have GG43 := Aside0.mk HG43
           clear gb43 gl43 HG43
           obtain ⟨hx43_0, hf43_0⟩ := Kd.R_celln 0 HO_7.out ((rd t314 t313) : Int) p43 q43
           replace p43 := eq_true p43
           replace q43 := eq_true q43
           have HP54 := Kd.R_putn HO_7.out ((rd t314 t313) : Int) t319
           rw [← Ny320.out] at HP54
           have HQ54 := Aside0.mk HP54
           clear HP54
           refine hK.out _ _ ⟨(blk_cell BK300.out 0).trans rfl, ((HB.out.cell (World.block_lt_of_cell? w _ hw318_0)).trans hw318_0), (blk_cell BKC.out 0).trans rfl⟩ (fun hHeld => ?_)
           clear hK K
           refine norm_ (a' := ?_) ?_ ?_
           rotate_left
           ·show Act.put _ (some 45) _ = _
            simp only [Act.put, List.setIfInBounds_toArray, List.set_cons_zero, List.set_cons_succ, i64_w, i32_w]
            rfl
           refine pure_ (i := 11) (N := some 46) (v := ?_) (a' := ?_) #[true,true,true,true,true,true,true,true,true,true,true,true,false] rfl rfl (any_of HT_.out (by kernel_rfl)) (fun _ _ _ h => h) (Or.inl ⟨by rfl, ?_⟩) ?_ ?_
           rotate_left
           ·intro w'
            go_simp
            with_reducible rfl
           rotate_left
           ·simp only [Act.put, List.setIfInBounds_toArray, List.set_cons_zero, List.set_cons_succ, i64_w, i32_w]
            rfl
           refine last_ (i := 12) (N := none) #[true,true,true,true,true,true,true,true,true,true,true,true,true] rfl rfl (one_of HT_.out (by kernel_rfl)) (by decide) (fun K hK => ?_)
           refine skip_ (w1 := ?_) (by rfl) rfl ?_ ?_
           rotate_left
           ·go_simp
            rfl
           refine hK.out _ _ ?_
           clear hK K
           refine done_ (done_of HT_.out (by kernel_rfl)) ?_
           try go_wp2
           have n0_ : Aside0 (Kd.R (Kd.int .i64) 3 (w53.setCell ⟨go43, ((rd t314 t313) : Int).toNat, none⟩ (.int .i64 t319)) w.heap.size (fun k_ => k_ ≠ gbc ∧ some k_ ≠ (.slice Ao49 t310.length co49 : Value).ownBlock ∧ some k_ ≠ (.slice (some ad317) t314.length co51 : Value).ownBlock) (.slice (some ⟨go43, 0, none⟩) x7_1.length co43) y320) := ⟨by refine rP ?_;exact Kd.R_mono HQ54.out (fun _ hk => ⟨hk.1.1, hk.1.2, hk.2⟩)⟩
           have n1_ : Aside0 (Kd.R (Kd.int .i64) 3 (w53.setCell ⟨go43, ((rd t314 t313) : Int).toNat, none⟩ (.int .i64 t319)) w.heap.size (fun k_ => some k_ ≠ (.slice (some ⟨go43, 0, none⟩) x7_1.length co43 : Value).ownBlock ∧ some k_ ≠ (.slice (some ad317) t314.length co51 : Value).ownBlock) (.slice Ao49 t310.length co49) t310) := ⟨by refine rP ?_;exact Kd.R_mono (Kd.R_far (p := ⟨go43, ((rd t314 t313) : Int).toNat, none⟩) (Kd.R_mono HO312.out (fun k_ hk => (⟨hk, fun e_ => hk.1.2 (by rw [e_];rfl)⟩ : _ ∧ k_ ≠ go43))) (fun _ hk => hk.2) (.int .i64 t319)) (fun _ hk => ⟨hk.1.1.2, hk.1.2⟩)⟩
           have n2_ : Aside0 (Kd.R (Kd.int .i64) 3 (w53.setCell ⟨go43, ((rd t314 t313) : Int).toNat, none⟩ (.int .i64 t319)) w.heap.size (fun k_ => some k_ ≠ (.slice (some ⟨go43, 0, none⟩) x7_1.length co43 : Value).ownBlock ∧ some k_ ≠ (.slice Ao49 t310.length co49 : Value).ownBlock) (.slice (some ad317) t314.length co51) t314) := ⟨by refine rP ?_;exact Kd.R_mono (Kd.R_far (p := ⟨go43, ((rd t314 t313) : Int).toNat, none⟩) (Kd.R_mono HO316.out (fun k_ hk => (⟨hk, fun e_ => hk.1.2 (by rw [e_];rfl)⟩ : _ ∧ k_ ≠ go43))) (fun _ hk => hk.2) (.int .i64 t319)) (fun _ hk => ⟨hk.1.1.2, hk.1.2⟩)⟩
           have n3_ : Aside0 ((w53.setCell ⟨go43, ((rd t314 t313) : Int).toNat, none⟩ (.int .i64 t319)).heap[gb300]? = some (.cells #[.slice (some ad318) l0_0.length c0_0] 62 (0, 0))) := ⟨by refine kP ?_;refine blk_far ?_ (by have h_ := Kd.R_ne HO_7.out BK300.out (by decide);intro e_;exact h_ (by rw [e_];rfl)) _;exact kP BK300.out⟩
           have nC_ : Aside0 ((w53.setCell ⟨go43, ((rd t314 t313) : Int).toNat, none⟩ (.int .i64 t319)).heap[gbc]? = some (.cells #[.int .i64 x6_1] 3 (0, 0))) := ⟨blk_far BKC.out (fun e_ => (HO_7.out.1 go43 rfl).1.1 e_.symm) _⟩
           have n4_ : Aside0 (Below w.heap.size w (w53.setCell ⟨go43, ((rd t314 t313) : Int).toNat, none⟩ (.int .i64 t319))) := ⟨by repeat (first | (with_reducible first | exact HB.out | apply below_alloc | apply pw_below_drewN | apply below_drew1 | refine below_set ?_ GB43.out | refine below_set ?_ GE300.out) | exact HB.out)⟩
           (try clear HO_7)
           (try clear HO312)
           (try clear HO316)
           (try clear BK300 BKC)
           (try clear HB)
           generalize (w53.setCell ⟨go43, ((rd t314 t313) : Int).toNat, none⟩ (.int .i64 t319)) = w55 at n0_ n1_ n2_ n3_ n4_ nC_ ⊢
           have HO_7 := n0_
           have HO312 := n1_
           have HO316 := n2_
           have BK300 := n3_;have BKC := nC_;clear nC_
           have HB := n4_
           clear n0_ n1_ n2_ n3_ n4_
           have n0_ := Aside0.mk (Kd.R_drew HO_7.out)
           have n1_ := Aside0.mk (Kd.R_drew HO312.out)
           have n2_ := Aside0.mk (Kd.R_drew HO316.out)
           have n3_ := Aside0.mk (blk_drew BK300.out);have nC_ := Aside0.mk (blk_drew BKC.out)
           have n4_ := Aside0.mk (below_drew1 HB.out)
           clear HO_7
           clear HO312
           clear HO316
           clear BK300 BKC
           clear HB
           have HO_7 := n0_
           have HO312 := n1_
           have HO316 := n2_
           have BK300 := n3_;have BKC := nC_;clear nC_
           have HB := n4_
           clear n0_ n1_ n2_ n3_ n4_
           have p321 : 0 ≤ ((rd t314 t313) : Int) := oA
           have q321 : (rd t314 t313) < (y320.length : Int) := (by have h_ : ((rd t314 t313) : Int) < ((x7_1.length : Int) : Int) := oA;first | (have e_ := (Kd.R_reads' HO_7.out).1;omega) | simpa only [Ny320.out, List.length_set] using h_)
           have ql321 : (((rd t314 t313) : Int) < ((x7_1.length : Int) : Int)) = True := eq_true (oA)
           obtain ⟨ad321, e321, hx321_0⟩ := Kd.at_int (Kd.R_reads' HO_7.out).2.2 (rd t314 t313) p321 q321
           obtain rfl : (⟨go43, 0, none⟩ : Addr) = ad321 := (by injection e321)
           (first | simp only [add_plain] at hx321_0 | simp only [add_at] at hx321_0 | simp only [Addr.add, Nat.zero_add] at hx321_0 | skip)
           replace p321 := eq_true p321
           replace q321 := eq_true q321
           refine start_ (n := 8) (S := fun w' => w'.cell? ⟨go43, ((rd t314 t313)).toNat, none⟩ = some (.int .i64 (rd y320 (rd t314 t313))) ∧ w'.cell? ⟨gbc, 0, none⟩ = some (.int .i64 x6_1)) (ds := [7]) #[false,false,false,false,false,false,false,false] (by kernel_rfl) rfl rfl ⟨hx321_0, (blk_cell BKC.out 0).trans rfl⟩ (fun hHeld => ?_);refine with_tabW impl_net_chains.tab9 impl_net_chains.bits9 (fun HT_ HW_ => ?_)
           generalize w55.drew = w56 at HO_7 HO312 HO316 BK300 BKC HB HQ54 hx321_0 hHeld ⊢
           refine take_ (i := 0) (N := some 47) (v := ?_) (a' := ?_) #[true,false,false,false,false,false,false,false] rfl rfl (take_ofW HT_.out HW_.out (by kernel_rfl)) (fun _ _ _ h => h) (Or.inl ⟨by rfl, ?_⟩) hHeld ?_ ?_
           rotate_left
           ·rintro w' ⟨s0, s1⟩
            go_simp
            with_reducible rfl
           rotate_left
           ·simp only [Act.put, List.setIfInBounds_toArray, List.set_cons_zero, List.set_cons_succ, i64_w, i32_w]
            rfl
           refine pure_ (i := 1) (N := some 48) (v := ?_) (a' := ?_) #[true,true,false,false,false,false,false,false] rfl rfl (any_of HT_.out (by kernel_rfl)) (fun _ _ _ h => h) (Or.inl ⟨by rfl, ?_⟩) ?_ ?_
           rotate_left
           ·intro w'
            go_simp
            with_reducible rfl
           rotate_left
           ·simp only [Act.put, List.setIfInBounds_toArray, List.set_cons_zero, List.set_cons_succ, i64_w, i32_w]
            rfl
           refine pure_ (i := 2) (N := some 49) (v := ?_) (a' := ?_) #[true,true,true,false,false,false,false,false] rfl rfl (any_of HT_.out (by kernel_rfl)) (fun _ _ _ h => h) (Or.inl ⟨by rfl, ?_⟩) ?_ ?_
           rotate_left
           ·intro w'
            go_simp
            with_reducible rfl
           rotate_left
           ·simp only [Act.put, List.setIfInBounds_toArray, List.set_cons_zero, List.set_cons_succ, i64_w, i32_w]
            rfl
           refine pure_ (i := 3) (N := some 50) (v := ?_) (a' := ?_) #[true,true,true,true,false,false,false,false] rfl rfl (any_of HT_.out (by kernel_rfl)) (fun _ _ _ h => h) (Or.inl ⟨by rfl, ?_⟩) ?_ ?_
           rotate_left
           ·intro w'
            go_simp
            with_reducible rfl
           rotate_left
           ·simp only [Act.put, List.setIfInBounds_toArray, List.set_cons_zero, List.set_cons_succ, i64_w, i32_w]
            rfl
           refine take_ (i := 4) (N := some 51) (v := ?_) (a' := ?_) #[true,true,true,true,true,false,false,false] rfl rfl (take_ofW HT_.out HW_.out (by kernel_rfl)) (fun _ _ _ h => h) (Or.inl ⟨by rfl, ?_⟩) hHeld ?_ ?_
           rotate_left
           ·rintro w' ⟨s0, s1⟩
            go_simp
            with_reducible rfl
           rotate_left
           ·simp only [Act.put, List.setIfInBounds_toArray, List.set_cons_zero, List.set_cons_succ, i64_w, i32_w]
            rfl
           refine pure_ (i := 5) (N := some 52) (v := ?_) (a' := ?_) #[true,true,true,true,true,true,false,false] rfl rfl (any_of HT_.out (by kernel_rfl)) (fun _ _ _ h => h) (Or.inl ⟨by rfl, ?_⟩) ?_ ?_
           rotate_left
           ·intro w'
            go_simp
            with_reducible rfl
           rotate_left
           ·simp only [Act.put, List.setIfInBounds_toArray, List.set_cons_zero, List.set_cons_succ, i64_w, i32_w]
            rfl
           refine pure_ (i := 6) (N := some 53) (v := ?_) (a' := ?_) #[true,true,true,true,true,true,true,false] rfl rfl (any_of HT_.out (by kernel_rfl)) (fun _ _ _ h => h) (Or.inl ⟨by rfl, ?_⟩) ?_ ?_
           rotate_left
           ·intro w'
            go_simp
            with_reducible rfl
           rotate_left
           ·simp only [Act.put, List.setIfInBounds_toArray, List.set_cons_zero, List.set_cons_succ, i64_w, i32_w]
            rfl
           have hxc_ : w56.cell? ⟨gbc, 0, none⟩ = some (.int .i64 x6_1) := (blk_cell BKC.out 0).trans rfl
           have hfc_ := blk_frozen BKC.out 0
           refine last_ (i := 7) (N := none) #[true,true,true,true,true,true,true,true] rfl rfl (one_of HT_.out (by kernel_rfl)) (by decide) (fun K hK => ?_)
           refine skip_ (w1 := ?_) (by rfl) rfl ?_ ?_
           rotate_left
           ·go_simp
            rfl
           refine hK.out _ _ ?_
           clear hK K
           refine done_ (done_of HT_.out (by kernel_rfl)) ?_
           try go_wp2
           have n0_ : Aside0 (Kd.R (Kd.int .i64) 3 (w56.setCell ⟨gbc, 0, none⟩ (.int .i64 (Go.bits .or .i64 x6_1 (ji45)))) w.heap.size (fun k_ => k_ ≠ gbc) (.slice (some ⟨go43, 0, none⟩) x7_1.length co43) y320) := ⟨Kd.R_mono (Kd.R_far (p := ⟨gbc, 0, none⟩) HO_7.out (fun k_ hk => hk.1) _) (fun _ hk => hk.1)⟩
           have n1_ : Aside0 ((w56.setCell ⟨gbc, 0, none⟩ (.int .i64 (Go.bits .or .i64 x6_1 (ji45)))).heap[gb300]? = some (.cells #[.slice (some ad318) l0_0.length c0_0] 62 (0, 0))) := ⟨blk_far BK300.out NWC.out _⟩
           have nC_ : Aside0 ((w56.setCell ⟨gbc, 0, none⟩ (.int .i64 (Go.bits .or .i64 x6_1 (ji45)))).heap[gbc]? = some (.cells #[.int .i64 (Go.bits .or .i64 x6_1 (ji45))] 3 (0, 0))) := ⟨blk_put BKC.out 0 _ rfl⟩
           have n2_ : Aside0 (Below w.heap.size w (w56.setCell ⟨gbc, 0, none⟩ (.int .i64 (Go.bits .or .i64 x6_1 (ji45))))) := ⟨below_set HB.out GEC.out⟩
           clear HO_7 BK300 BKC HB hxc_ hfc_
           generalize (w56.setCell ⟨gbc, 0, none⟩ (.int .i64 (Go.bits .or .i64 x6_1 (ji45)))) = wz_ at n0_ n1_ nC_ n2_ ⊢
           have HO_7 := n0_
           have BK300 := n1_
           have BKC := nC_
           have HB := n2_
           clear n0_ n1_ n2_ nC_
           go_roundg k1
           case measure => have := HK1.out;omega
           case rel => exact ⟨(Go.bits .or .i64 x6_1 (ji45)), (y320), H', ⟨by have := HK1.out;omega⟩, ⟨by exact rP HO_7.out⟩, ⟨by exact kP BK300.out⟩, ⟨by exact kP BKC.out⟩, ⟨by exact bB⟩⟩
          ·rw [if_neg c44] at H
           exact absurd H (by simp)
         ·rw [if_neg c42] at H
          exact absurd H (by simp)
        ·rw [if_neg c40] at H
         exact absurd H (by simp)
       ·rw [if_neg c39] at H
        exact absurd H (by simp)
      ·rw [if_neg c38] at H
       exact absurd H (by simp)
     ·rw [if_neg c37] at H
      exact absurd H (by simp)




end Go.Proofs.YthbjajppdomhhaaDoor.QChainsOf
