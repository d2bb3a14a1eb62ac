import Derived.Test.YtmokkhfmbenleaaQSavedNodes0
import Derived.Test.YtmokkhfmbenleaaQSavedNodes12
import Derived.Test.YtmokkhfmbenleaaQSavedNodes13
namespace Go.Proofs.Ytmokkhfmbenleaa.QSavedNodes
open Go.RowKit Go.Proofs.YtmokkhfmbenleaaW.PrintWords Go.Proofs.YtmokkhfmbenleaaW.PrintLast Go.Proofs.YtmokkhfmbenleaaW.PrintMore
attribute [local go_sem] max2_int min2_int max_two min_two max_three min_three max_four min_four   -- for this text's walks alone
set_option linter.unusedVariables false
set_option linter.unusedSimpArgs false
/-! ### impl_firePlan: function 70 -/
mutual
def impl_firePlan.l0 : Nat → Int → List (List Int) → List Int → Int → Int → List (S119) → List Int → Int → Int → Option (List Int × Int × Int × Bool)
 | 0, _, _, _, _, _, _, _, _, _ => none
 | k + 1, x2, x3, x13, x14, x300000, x300001, x305000, x306000, x306001 => if x14 < (x3.length : Int) then (impl_firePlan.j1 k x2 x3 x13 x14 true x300000 x300001 x305000 x306000 x306001) else ((impl_net_threatened.f k x305000 x306000 x306001).bind fun t309 => (impl_firePlan.j1 k x2 x3 x13 x14 (t309 != 0) x300000 x300001 x305000 x306000 x306001))
def impl_firePlan.j1 : Nat → Int → List (List Int) → List Int → Int → Bool → Int → List (S119) → List Int → Int → Int → Option (List Int × Int × Int × Bool)
 | 0, _, _, _, _, _, _, _, _, _, _ => none
 | k + 1, x2, x3, x13, x14, x37, x300000, x300001, x305000, x306000, x306001 => if x37 = true then (if x14 < (x3.length : Int) then (if 0 ≤ x14 then (if ((rd_L2 x3 x14).length : Int) > x2 then (impl_firePlan.j2 k x2 x3 x13 x14 (rd_L2 x3 x14) true x300000 x300001 x305000 x306000 x306001) else ((impl_isSet.f k x300000 x300001 (rd_L2 x3 x14)).bind fun t311 => (if t311 = true then ((impl_maskOf.f k (rd_L2 x3 x14)).bind fun t312 => (impl_firePlan.j2 k x2 x3 x13 x14 (rd_L2 x3 x14) ((Go.bits .and .i64 t312 (Go.bits .or .i64 x306000 x306001)) != 0) x300000 x300001 x305000 x306000 x306001)) else (impl_firePlan.j2 k x2 x3 x13 x14 (rd_L2 x3 x14) true x300000 x300001 x305000 x306000 x306001)))) else (none)) else ((impl_net_threatened.f k x305000 x306000 x306001).bind fun t318 => (if x13.length < 17592186044416 then (impl_firePlan.l0 k x2 x3 (x13 ++ [Go.bits .or .i64 x306000 t318]) (wrap64 (x14 + 1)) x300000 x300001 x305000 (Go.bits .or .i64 x306000 t318) x306001) else (none)))) else (some (x13, x306000, x306001, true))
def impl_firePlan.j2 : Nat → Int → List (List Int) → List Int → Int → List Int → Bool → Int → List (S119) → List Int → Int → Int → Option (List Int × Int × Int × Bool)
 | 0, _, _, _, _, _, _, _, _, _, _, _ => none
 | k + 1, x2, x3, x13, x14, x15, x68, x300000, x300001, x305000, x306000, x306001 => if x68 = true then (some (([] : List Int), x306000, x306001, false)) else ((impl_maskOf.f k x15).bind fun t313 => ((impl_net_threatened.f k x305000 x306000 (Go.bits .or .i64 x306001 t313)).bind fun t314 => (if x13.length < 17592186044416 then (impl_firePlan.l0 k x2 x3 (x13 ++ [Go.bits .or .i64 x306000 t314]) (wrap64 (x14 + 1)) x300000 x300001 x305000 (Go.bits .or .i64 x306000 t314) (Go.bits .or .i64 x306001 t313)) else (none))))
end
def impl_firePlan.f (k : Nat) (a0_0 : Int) (l0_1 : List (S119)) (a1 : Int) (a2 : Int) (l3 : List (List Int)) : Option (List Int × Int × Int × Bool) := (impl_netOf.f a0_0 l0_1).bind fun t301 => (if 0 ≤ a1 then (if (l3.length : Int) > 8 then (some (([] : List Int), shl .i64 1 a1, 0, false)) else (impl_firePlan.l0 k a2 l3 (([shl .i64 1 a1] : List Int)) 0 a0_0 l0_1 t301 (shl .i64 1 a1) 0)) else (none))
theorem impl_firePlan.mono_l : ∀ k, (∀ y0 y1 y2 y3 y4 y5 y6 y7 y8, LeO (impl_firePlan.l0 k y0 y1 y2 y3 y4 y5 y6 y7 y8) (impl_firePlan.l0 (k + 1) y0 y1 y2 y3 y4 y5 y6 y7 y8)) ∧ (∀ y0 y1 y2 y3 y4 y5 y6 y7 y8 y9, LeO (impl_firePlan.j1 k y0 y1 y2 y3 y4 y5 y6 y7 y8 y9) (impl_firePlan.j1 (k + 1) y0 y1 y2 y3 y4 y5 y6 y7 y8 y9)) ∧ (∀ y0 y1 y2 y3 y4 y5 y6 y7 y8 y9 y10, LeO (impl_firePlan.j2 k y0 y1 y2 y3 y4 y5 y6 y7 y8 y9 y10) (impl_firePlan.j2 (k + 1) y0 y1 y2 y3 y4 y5 y6 y7 y8 y9 y10))
 | 0 => ⟨fun _ _ _ _ _ _ _ _ _ r h => by simp [impl_firePlan.l0] at h, fun _ _ _ _ _ _ _ _ _ _ r h => by simp [impl_firePlan.j1] at h, fun _ _ _ _ _ _ _ _ _ _ _ r h => by simp [impl_firePlan.j2] at h⟩
 | k + 1 => by
  obtain ⟨ih0, ih1, ih2⟩ := impl_firePlan.mono_l k
  refine ⟨?_, ?_, ?_⟩
  ·intro y0 y1 y2 y3 y4 y5 y6 y7 y8
   unfold impl_firePlan.l0
   repeat' first
   | (with_reducible exact ih0 _ _ _ _ _ _ _ _ _)
   | (with_reducible exact ih1 _ _ _ _ _ _ _ _ _ _)
   | (with_reducible exact ih2 _ _ _ _ _ _ _ _ _ _ _)
   | (with_reducible exact impl_isSet.mono _ _ _ _)
   | (with_reducible exact impl_maskOf.mono _ _)
   | (with_reducible exact impl_net_threatened.mono _ _ _ _)
   | (with_reducible exact LeO.refl _)
   | (with_reducible exact LeO.none _)
   | (with_reducible refine LeO.ite ?_ ?_)
   | (with_reducible refine LeO.bind ?_ (fun _ => ?_))
   | exact ih0 _ _ _ _ _ _ _ _ _
   | exact ih1 _ _ _ _ _ _ _ _ _ _
   | exact ih2 _ _ _ _ _ _ _ _ _ _ _
   | exact impl_isSet.mono _ _ _ _
   | exact impl_maskOf.mono _ _
   | exact impl_net_threatened.mono _ _ _ _
   | exact LeO.none _
   | refine LeO.ite ?_ ?_
   | refine LeO.bind ?_ (fun _ => ?_)
  ·intro y0 y1 y2 y3 y4 y5 y6 y7 y8 y9
   unfold impl_firePlan.j1
   repeat' first
   | (with_reducible exact ih0 _ _ _ _ _ _ _ _ _)
   | (with_reducible exact ih1 _ _ _ _ _ _ _ _ _ _)
   | (with_reducible exact ih2 _ _ _ _ _ _ _ _ _ _ _)
   | (with_reducible exact impl_isSet.mono _ _ _ _)
   | (with_reducible exact impl_maskOf.mono _ _)
   | (with_reducible exact impl_net_threatened.mono _ _ _ _)
   | (with_reducible exact LeO.refl _)
   | (with_reducible exact LeO.none _)
   | (with_reducible refine LeO.ite ?_ ?_)
   | (with_reducible refine LeO.bind ?_ (fun _ => ?_))
   | exact ih0 _ _ _ _ _ _ _ _ _
   | exact ih1 _ _ _ _ _ _ _ _ _ _
   | exact ih2 _ _ _ _ _ _ _ _ _ _ _
   | exact impl_isSet.mono _ _ _ _
   | exact impl_maskOf.mono _ _
   | exact impl_net_threatened.mono _ _ _ _
   | exact LeO.none _
   | refine LeO.ite ?_ ?_
   | refine LeO.bind ?_ (fun _ => ?_)
  ·intro y0 y1 y2 y3 y4 y5 y6 y7 y8 y9 y10
   unfold impl_firePlan.j2
   repeat' first
   | (with_reducible exact ih0 _ _ _ _ _ _ _ _ _)
   | (with_reducible exact ih1 _ _ _ _ _ _ _ _ _ _)
   | (with_reducible exact ih2 _ _ _ _ _ _ _ _ _ _ _)
   | (with_reducible exact impl_isSet.mono _ _ _ _)
   | (with_reducible exact impl_maskOf.mono _ _)
   | (with_reducible exact impl_net_threatened.mono _ _ _ _)
   | (with_reducible exact LeO.refl _)
   | (with_reducible exact LeO.none _)
   | (with_reducible refine LeO.ite ?_ ?_)
   | (with_reducible refine LeO.bind ?_ (fun _ => ?_))
   | exact ih0 _ _ _ _ _ _ _ _ _
   | exact ih1 _ _ _ _ _ _ _ _ _ _
   | exact ih2 _ _ _ _ _ _ _ _ _ _ _
   | exact impl_isSet.mono _ _ _ _
   | exact impl_maskOf.mono _ _
   | exact impl_net_threatened.mono _ _ _ _
   | exact LeO.none _
   | refine LeO.ite ?_ ?_
   | refine LeO.bind ?_ (fun _ => ?_)
theorem impl_firePlan.mono : ∀ a0 a1 a2 a3 a4 k, LeO (impl_firePlan.f k a0 a1 a2 a3 a4) (impl_firePlan.f (k + 1) a0 a1 a2 a3 a4) := by
 intro a0 a1 a2 a3 a4 k
 obtain ⟨ih0, ih1, ih2⟩ := impl_firePlan.mono_l k
 unfold impl_firePlan.f
 repeat' first
   | (with_reducible exact ih0 _ _ _ _ _ _ _ _ _)
   | (with_reducible exact ih1 _ _ _ _ _ _ _ _ _ _)
   | (with_reducible exact ih2 _ _ _ _ _ _ _ _ _ _ _)
   | (with_reducible exact impl_isSet.mono _ _ _ _)
   | (with_reducible exact impl_maskOf.mono _ _)
   | (with_reducible exact impl_net_threatened.mono _ _ _ _)
   | (with_reducible exact LeO.refl _)
   | (with_reducible exact LeO.none _)
   | (with_reducible refine LeO.ite ?_ ?_)
   | (with_reducible refine LeO.bind ?_ (fun _ => ?_))
   | exact ih0 _ _ _ _ _ _ _ _ _
   | exact ih1 _ _ _ _ _ _ _ _ _ _
   | exact ih2 _ _ _ _ _ _ _ _ _ _ _
   | exact impl_isSet.mono _ _ _ _
   | exact impl_maskOf.mono _ _
   | exact impl_net_threatened.mono _ _ _ _
   | exact LeO.none _
   | refine LeO.ite ?_ ?_
   | refine LeO.bind ?_ (fun _ => ?_)
def impl_firePlan.T11 : Bool × List (List Nat × List Nat) := (true, [([], []), ([0], [0]), ([], []), ([1, 2], [1, 2]), ([3], [3]), ([4], [4]), ([4], [4]), ([5, 6, 4, 4], [4, 5, 6]), ([7, 4], [4, 7]), ([4, 8], [4, 8]), ([9, 7], [9]), ([10], [10]), ([11, 10, 10], [10, 11]), ([10], [10]), ([13, 10], [10, 13]), ([10], [10]), ([15, 10], [10, 15]), ([14, 16, 10], [10, 14, 16]), ([12, 17, 10], [10, 12, 17]), ([18, 10], [10, 18]), ([10, 19], [10, 19])])
def impl_firePlan.B11 : List Nat := [0, 1, 0, 7, 15, 31, 31, 127, 255, 511, 1023, 2047, 4095, 2047, 10239, 2047, 34815, 124927, 262143, 524287, 1048575]
theorem impl_firePlan.tab11 : rtab .any (opsOf Try.f70 11) = impl_firePlan.T11 := by kernel_rfl
theorem impl_firePlan.bits11 : waitsOk impl_firePlan.T11.2 impl_firePlan.B11 = true := by kernel_rfl
def impl_firePlan.T14 : Bool × List (List Nat × List Nat) := (true, [([], []), ([0], [0]), ([], []), ([], []), ([2, 3], [2, 3]), ([1, 4], [1, 4]), ([0, 1, 2, 3, 4, 5], []), ([6, 5, 4, 0, 1, 2, 3, 4, 5], [5, 6])])
def impl_firePlan.B14 : List Nat := [0, 1, 0, 0, 12, 31, 63, 127]
theorem impl_firePlan.tab14 : rtab .any (opsOf Try.f70 14) = impl_firePlan.T14 := by kernel_rfl
theorem impl_firePlan.bits14 : waitsOk impl_firePlan.T14.2 impl_firePlan.B14 = true := by kernel_rfl
set_option maxHeartbeats 8000000 in
set_option maxRecDepth 100000 in
theorem impl_firePlan.calls (k : Nat) (a0_0 : Int) (A0_1 : Option Addr) (c0_1 : Nat) (l0_1 : List (S119)) (a1 : Int) (a2 : Int) (A3 : Option Addr) (c3 : Nat) (l3 : List (List Int)) (r1 : List Int) (r2 : Int) (r3 : Int) (r4 : Bool) (w : World) (hr0_1 : Kd.C k119 w A0_1 l0_1.length l0_1) (hc0_1 : l0_1.length ≤ c0_1) (hr3 : Kd.C (Kd.slice 3 (Kd.int .i64)) w A3 l3.length l3) (hc3 : l3.length ≤ c3) (h : impl_firePlan.f k a0_0 l0_1 a1 a2 l3 = some (r1, r2, r3, r4)) :
  Calls Try.prog 70 #[.agg #[.int .i64 a0_0, .slice A0_1 l0_1.length c0_1], .int .i64 a1, .int .i64 a2, .slice A3 l3.length c3] w fun e w' => ∃ v0_ : Value, e = .returned (.tuple #[v0_, .agg #[.int .i64 r2, .int .i64 r3], .bool r4]) ∧ Kd.R (Kd.int .i64) 3 w' w.heap.size (fun _ => True) v0_ r1 ∧ Below w.heap.size w w' := by
 have hu31 := Try.underlying31
 have hu75 := Try.underlying75
 have hu80 := Try.underlying80
 have HR0_1 := Aside0.mk hr0_1
 have HC0_1 := Aside0.mk hc0_1
 clear hr0_1 hc0_1
 have HR3 := Aside0.mk hr3
 have HC3 := Aside0.mk hc3
 clear hr3 hc3
 have HB := Aside0.mk (Below.refl w.heap.size w)
 have H : ((impl_netOf.f a0_0 l0_1).bind fun t301 => (if 0 ≤ a1 then (if (l3.length : Int) > 8 then (some (([] : List Int), shl .i64 1 a1, 0, false)) else (impl_firePlan.l0 k a2 l3 (([shl .i64 1 a1] : List Int)) 0 a0_0 l0_1 t301 (shl .i64 1 a1) 0)) else (none))) = some (r1, r2, r3, r4) := h
 clear h
 replace H := Option.bind_eq_some_iff.mp H
 obtain ⟨t301, A50, H⟩ := H
 replace H : (if 0 ≤ a1 then (if (l3.length : Int) > 8 then (some (([] : List Int), shl .i64 1 a1, 0, false)) else (impl_firePlan.l0 k a2 l3 (([shl .i64 1 a1] : List Int)) 0 a0_0 l0_1 t301 (shl .i64 1 a1) 0)) else (none)) = some (r1, r2, r3, r4) := H
 have A5 := Aside0.mk A50
 clear A50
 by_cases c6 : 0 ≤ a1
 ·rw [if_pos c6] at H
  have c6b0 := eq_true c6
  have c6b1 : decide (0 ≤ a1) = true := decide_eq_true c6
  clear c6
  obtain ⟨ji7, hji7⟩ : ∃ j_ : Int, (shl .i64 1 a1) = j_ := ⟨_, rfl⟩
  replace H : (if (l3.length : Int) > 8 then (some (([] : List Int), ji7, 0, false)) else (impl_firePlan.l0 k a2 l3 (([ji7] : List Int)) 0 a0_0 l0_1 t301 ji7 0)) = some (r1, r2, r3, r4) := by first | (rw [hji7] at H;exact H) | (simp only [hji7] at H ⊢;exact H)
  (try rw [hji7] at A5)
  have hji7_ : (IntKind.i64.wrap (1 * 2 ^ min a1.toNat 64)) = ji7 := hji7
  have hji7z : a1 ≤ 64 → (IntKind.i64.wrap (1 * 2 ^ a1.toNat)) = ji7 := shl_small hji7
  have hji7u : (IntKind.i64.wrap (2 ^ min a1.toNat 64)) = ji7 := by have h_ := hji7_;rw [Int.one_mul] at h_;exact h_
  have hji7v : a1 ≤ 64 → (IntKind.i64.wrap (2 ^ a1.toNat)) = ji7 := fun hle_ => by have h_ := hji7z hle_;rw [Int.one_mul] at h_;exact h_
  have hji7y : (wrap64 (1 * 2 ^ min a1.toNat 64)) = ji7 := (i64_w _).symm.trans hji7_
  have hji7x : a1 ≤ 64 → (wrap64 (1 * 2 ^ a1.toNat)) = ji7 := fun h_ => (i64_w _).symm.trans (hji7z h_)
  obtain ⟨y306, hy306⟩ : ∃ y_ : List Int, y_ = (([ji7] : List Int)) := ⟨_, rfl⟩
  replace H : (if (l3.length : Int) > 8 then (some (([] : List Int), ji7, 0, false)) else (impl_firePlan.l0 k a2 l3 y306 0 a0_0 l0_1 t301 ji7 0)) = some (r1, r2, r3, r4) := by first | (rw [hy306];with_reducible exact H) | (have H2_ := (Option.bind_some _ _).symm.trans H;rw [hy306];with_reducible exact H2_) | (have H2_ := (Option.bind_some _ _).symm.trans H;with_reducible exact H2_) | with_reducible exact H | (rw [hy306];exact H) | exact H
  have Ny306 := Aside0.mk hy306
  clear hy306
  by_cases c8 : (l3.length : Int) > 8
  ·rw [if_pos c8] at H
   have c8b0 : decide (8 < (l3.length : Int)) = true := decide_eq_true c8
   have c8b1 : decide (8 < l3.length) = true := decide_eq_true (by omega)
   clear c8
   simp only [Option.some.injEq, Prod.mk.injEq] at H
   obtain ⟨rfl, rfl, rfl, rfl⟩ := H
   go_enter Try.func70, Try.ntmps70
   try go_wp2_with (first | ((with_reducible refine gate_dst (N := 4) rfl ?_);refine box_event ?hg (N := 4) ?hd (cs := #[.int .i64 a0_0, .slice A0_1 l0_1.length c0_1]) (t := 31) ?hr ?_;(case hd => rfl);(case hg => rfl);(case hr => first | (go_simp;done) | (go_simp;rfl));intro gb299 hg w9 hbox hb;have n0_ := Aside0.mk (below_step (by exact bB) hb);have n1_ := Aside0.mk (hbox);have n2_ := Aside0.mk ((by rw [hg];exact (below_size (by exact bB)) : w.heap.size ≤ gb299));have n3_ := Aside0.mk ((by rw [hg];exact (below_size (by exact bB)) : w.heap.size ≤ gb299));clear HB;have HB := n0_;have BK299 := n1_;have GW299 := n2_;have GE299 := n3_;clear n0_ n1_ n2_ n3_;clear hb hbox hg) | ((with_reducible refine gate_dst (N := 9) rfl ?_);refine box_event ?hg (N := 9) ?hd (cs := #[.int .i64 0, .int .i64 0]) (t := 75) ?hr ?_;(case hd => rfl);(case hg => rfl);(case hr => first | (go_simp;done) | (go_simp;rfl));intro gb300 hg w10 hbox hb;have n0_ := Aside0.mk (blk_below (g := gb299) (o := .cells #[.int .i64 a0_0, .slice A0_1 l0_1.length c0_1] 31 (0, 0)) (by exact kP BK299.out) hb);have n1_ := Aside0.mk (below_step (by exact bB) hb);have n2_ := Aside0.mk (hbox);have n3_ := Aside0.mk ((by rw [hg];exact (below_size (by exact bB)) : w.heap.size ≤ gb300));have n4_ := Aside0.mk ((by rw [hg];exact (below_size (by exact bB)) : w.heap.size ≤ gb300));have n5_ := Aside0.mk ((by rw [hg];exact Nat.ne_of_lt (blk_lt (g := gb299) (o := .cells #[.int .i64 a0_0, .slice A0_1 l0_1.length c0_1] 31 (0, 0)) (by exact kP BK299.out)) : gb299 ≠ gb300));have n6_ := Aside0.mk ((by rw [hg];exact Nat.ne_of_gt (blk_lt (g := gb299) (o := .cells #[.int .i64 a0_0, .slice A0_1 l0_1.length c0_1] 31 (0, 0)) (by exact kP BK299.out)) : gb300 ≠ gb299));clear BK299;clear HB;have BK299 := n0_;have HB := n1_;have BK300 := n2_;have GW300 := n3_;have GE300 := n4_;have NB299_300 := n5_;have NB300_299 := n6_;clear n0_ n1_ n2_ n3_ n4_ n5_ n6_;clear hb hbox hg;have hnb11 := NB299_300.out;have hnc11 := NB300_299.out;have hcz12_0 : w10.cell? ⟨gb299, 0, none⟩ = some (.int .i64 a0_0) := (blk_cell BK299.out 0).trans rfl;have hcz12_1 : w10.cell? ⟨gb299, 1, none⟩ = some (.slice A0_1 l0_1.length c0_1) := (blk_cell BK299.out 1).trans rfl;have hfz12_0 := blk_frozen BK299.out 0;have hfz12_1 := blk_frozen BK299.out 1) | ((with_reducible refine gate_callee (f := 72) rfl ?_);refine goesL_ (some 17) rfl rfl Try.func72 (by kernel_rfl) rfl #[.agg #[.int .i64 a0_0, .slice A0_1 l0_1.length c0_1]] rfl mM ?_;(with_reducible refine (impl_netOf.calls a0_0 _ _ l0_1 t301 _ ?side1 ?side2 A5.out).mono ?_);(case side1 => exact cP (Kd.C_below HR0_1.out HB.out));(case side2 => exact HC0_1.out);rintro e w13 ⟨v302, rfl, ho0, hb⟩;refine ⟨_, rfl, ?_⟩;have n0_ := Aside0.mk (Kd.R_lower ho0 (below_size (by exact bB)));have n1_ := Aside0.mk (blk_below (g := gb299) (o := .cells #[.int .i64 a0_0, .slice A0_1 l0_1.length c0_1] 31 (0, 0)) (by exact kP BK299.out) hb);have n2_ := Aside0.mk (blk_below (g := gb300) (o := .cells #[.int .i64 0, .int .i64 0] 75 (0, 0)) (by exact kP BK300.out) hb);have n3_ := Aside0.mk (below_step (by exact bB) hb);clear BK299;clear BK300;clear HB;have HO303 := n0_;have BK299 := n1_;have BK300 := n2_;have HB := n3_;clear n0_ n1_ n2_ n3_;(try clear hb);(try clear hb2);(try clear hk);(try clear hi);(try clear ho0)) | ((with_reducible refine gate_dst (N := 11) rfl ?_);refine box_event ?hg (N := 11) ?hd (cs := #[.slice none 0 0]) (t := 80) ?hr ?_;(case hd => rfl);(case hg => rfl);(case hr => first | (go_simp;done) | (go_simp;rfl));intro gb304 hg w14 hbox hb;have n0_ := Aside0.mk (Kd.R_below (by exact rP HO303.out) hb);have n1_ := Aside0.mk (blk_below (g := gb299) (o := .cells #[.int .i64 a0_0, .slice A0_1 l0_1.length c0_1] 31 (0, 0)) (by exact kP BK299.out) hb);have n2_ := Aside0.mk (blk_below (g := gb300) (o := .cells #[.int .i64 0, .int .i64 0] 75 (0, 0)) (by exact kP BK300.out) hb);have n3_ := Aside0.mk (below_step (by exact bB) hb);have n4_ := Aside0.mk (hbox);have n5_ := Aside0.mk ((by rw [hg];exact (below_size (by exact bB)) : w.heap.size ≤ gb304));have n6_ := Aside0.mk ((by rw [hg];exact (below_size (by exact bB)) : w.heap.size ≤ gb304));have n7_ := Aside0.mk ((by rw [hg];exact Nat.ne_of_lt (blk_lt (g := gb299) (o := .cells #[.int .i64 a0_0, .slice A0_1 l0_1.length c0_1] 31 (0, 0)) (by exact kP BK299.out)) : gb299 ≠ gb304));have n8_ := Aside0.mk ((by rw [hg];exact Nat.ne_of_gt (blk_lt (g := gb299) (o := .cells #[.int .i64 a0_0, .slice A0_1 l0_1.length c0_1] 31 (0, 0)) (by exact kP BK299.out)) : gb304 ≠ gb299));have n9_ := Aside0.mk ((by rw [hg];exact Nat.ne_of_lt (blk_lt (g := gb300) (o := .cells #[.int .i64 0, .int .i64 0] 75 (0, 0)) (by exact kP BK300.out)) : gb300 ≠ gb304));have n10_ := Aside0.mk ((by rw [hg];exact Nat.ne_of_gt (blk_lt (g := gb300) (o := .cells #[.int .i64 0, .int .i64 0] 75 (0, 0)) (by exact kP BK300.out)) : gb304 ≠ gb300));clear HO303;clear BK299;clear BK300;clear HB;have HO303 := n0_;have BK299 := n1_;have BK300 := n2_;have HB := n3_;have BK304 := n4_;have GW304 := n5_;have GE304 := n6_;have NB299_304 := n7_;have NB304_299 := n8_;have NB300_304 := n9_;have NB304_300 := n10_;clear n0_ n1_ n2_ n3_ n4_ n5_ n6_ n7_ n8_ n9_ n10_;clear hb hbox hg;obtain ⟨Ao15, co15, eo15⟩ := Kd.R_slice HO303.out;subst eo15;have hnb16 := NB304_299.out;have hnc16 := NB299_304.out;have hnb17 := NB304_300.out;have hnc17 := NB300_304.out;have hcz18_0 : w14.cell? ⟨gb304, 0, none⟩ = some (.slice none 0 0) := (blk_cell BK304.out 0).trans rfl;have hfz18_0 := blk_frozen BK304.out 0) | ((with_reducible refine gate_dst (N := 12) rfl ?_);refine box_event ?hg (N := 12) ?hd (cs := #[.int .i64 0, .int .i64 0]) (t := 75) ?hr ?_;(case hd => rfl);(case hg => rfl);(case hr => first | (go_simp;done) | (go_simp;rfl));intro gb305 hg w19 hbox hb;have n0_ := Aside0.mk (Kd.R_below (by exact rP ((Kd.R_mono (Kd.R_far (p := ⟨gb304, 0, none⟩) (Kd.R_types HO303.out BK304.out (by decide)) (fun _ hk => hk.2) (.slice Ao15 t301.length co15)) (fun _ h_ => h_.1)))) hb);have n1_ := Aside0.mk (blk_below (g := gb299) (o := .cells #[.int .i64 a0_0, .slice A0_1 l0_1.length c0_1] 31 (0, 0)) (by refine kP ?_;refine blk_far ?_ NB299_304.out _;exact kP BK299.out) hb);have n2_ := Aside0.mk (blk_below (g := gb300) (o := .cells #[.int .i64 0, .int .i64 0] 75 (0, 0)) (by refine kP ?_;refine blk_far ?_ NB300_304.out _;exact kP BK300.out) hb);have n3_ := Aside0.mk (blk_below (g := gb304) (o := .cells #[.slice Ao15 t301.length co15] 80 (0, 0)) (by refine kP ?_;refine blk_put (cs := #[.slice none 0 0]) ?_ 0 _ rfl;exact kP BK304.out) hb);have n4_ := Aside0.mk (below_step (by exact bB) hb);have n5_ := Aside0.mk (hbox);have n6_ := Aside0.mk ((by rw [hg];exact (below_size (by exact bB)) : w.heap.size ≤ gb305));have n7_ := Aside0.mk ((by rw [hg];exact (below_size (by exact bB)) : w.heap.size ≤ gb305));have n8_ := Aside0.mk ((by rw [hg];exact Nat.ne_of_lt (blk_lt (g := gb299) (o := .cells #[.int .i64 a0_0, .slice A0_1 l0_1.length c0_1] 31 (0, 0)) (by refine kP ?_;refine blk_far ?_ NB299_304.out _;exact kP BK299.out)) : gb299 ≠ gb305));have n9_ := Aside0.mk ((by rw [hg];exact Nat.ne_of_gt (blk_lt (g := gb299) (o := .cells #[.int .i64 a0_0, .slice A0_1 l0_1.length c0_1] 31 (0, 0)) (by refine kP ?_;refine blk_far ?_ NB299_304.out _;exact kP BK299.out)) : gb305 ≠ gb299));have n10_ := Aside0.mk ((by rw [hg];exact Nat.ne_of_lt (blk_lt (g := gb300) (o := .cells #[.int .i64 0, .int .i64 0] 75 (0, 0)) (by refine kP ?_;refine blk_far ?_ NB300_304.out _;exact kP BK300.out)) : gb300 ≠ gb305));have n11_ := Aside0.mk ((by rw [hg];exact Nat.ne_of_gt (blk_lt (g := gb300) (o := .cells #[.int .i64 0, .int .i64 0] 75 (0, 0)) (by refine kP ?_;refine blk_far ?_ NB300_304.out _;exact kP BK300.out)) : gb305 ≠ gb300));have n12_ := Aside0.mk ((by rw [hg];exact Nat.ne_of_lt (blk_lt (g := gb304) (o := .cells #[.slice Ao15 t301.length co15] 80 (0, 0)) (by refine kP ?_;refine blk_put (cs := #[.slice none 0 0]) ?_ 0 _ rfl;exact kP BK304.out)) : gb304 ≠ gb305));have n13_ := Aside0.mk ((by rw [hg];exact Nat.ne_of_gt (blk_lt (g := gb304) (o := .cells #[.slice Ao15 t301.length co15] 80 (0, 0)) (by refine kP ?_;refine blk_put (cs := #[.slice none 0 0]) ?_ 0 _ rfl;exact kP BK304.out)) : gb305 ≠ gb304));clear HO303;clear BK299;clear BK300;clear BK304;clear HB;have HO303 := n0_;have BK299 := n1_;have BK300 := n2_;have BK304 := n3_;have HB := n4_;have BK305 := n5_;have GW305 := n6_;have GE305 := n7_;have NB299_305 := n8_;have NB305_299 := n9_;have NB300_305 := n10_;have NB305_300 := n11_;have NB304_305 := n12_;have NB305_304 := n13_;clear n0_ n1_ n2_ n3_ n4_ n5_ n6_ n7_ n8_ n9_ n10_ n11_ n12_ n13_;clear hb hbox hg;have hnb20 := NB305_299.out;have hnc20 := NB299_305.out;have hnb21 := NB305_300.out;have hnc21 := NB300_305.out;have hnb22 := NB305_304.out;have hnc22 := NB304_305.out;have hcz23_0 : w19.cell? ⟨gb305, 0, none⟩ = some (.int .i64 0) := (blk_cell BK305.out 0).trans rfl;have hcz23_1 : w19.cell? ⟨gb305, 1, none⟩ = some (.int .i64 0) := (blk_cell BK305.out 1).trans rfl;have hfz23_0 := blk_frozen BK305.out 0;have hfz23_1 := blk_frozen BK305.out 1) | ((with_reducible refine gate_dst (N := 23) rfl ?_);refine Kd.R_lit (Kd.int .i64) _ 3 ?hg (N := 23) ?hd (xs := ([ji7] : List Int)) (inner := [.int .i64 ji7]) (ok := fun _ => True) (okp := fun _ => True) ?hr ?hp (fun _ hk => hk) trivial (Below.refl _ _) (Nat.le_refl _) (by simp) ?_;(case hd => rfl);(case hg => rfl);(case hr => first | (go_simp;done) | (go_simp;rfl));(case hp => exact (Reps.one (show Kd.M (Kd.int .i64) _ _ _ ji7 [.int .i64 ji7] from rfl) (Reps.none _ _)));intro v307 w24 ho25 hb hg_ hnew_;clear hg_ hnew_;(first | rw [← Ny306.out] at ho25 | (simp only [Int.reduceToNat] at ho25;rw [← Ny306.out] at ho25));have n0_ := Aside0.mk (Kd.R_elder' (by exact rP ((Kd.R_mono (Kd.R_far (p := ⟨gb305, 1, none⟩) (Kd.R_far (p := ⟨gb305, 0, none⟩) (Kd.R_types HO303.out BK305.out (by decide)) (fun _ hk => hk.2) (.int .i64 ji7)) (fun _ hk => hk.2) (.int .i64 0)) (fun _ h_ => h_.1)))) (Kd.R_base ho25) hb);have n1_ := Aside0.mk (Kd.R_lower (Kd.R_new' ho25 (Kd.R_lt (by exact rP ((Kd.R_mono (Kd.R_far (p := ⟨gb305, 1, none⟩) (Kd.R_far (p := ⟨gb305, 0, none⟩) (Kd.R_types HO303.out BK305.out (by decide)) (fun _ hk => hk.2) (.int .i64 ji7)) (fun _ hk => hk.2) (.int .i64 0)) (fun _ h_ => h_.1)))))) (below_size (by exact bB)));have n2_ := Aside0.mk (blk_below (g := gb299) (o := .cells #[.int .i64 a0_0, .slice A0_1 l0_1.length c0_1] 31 (0, 0)) (by refine kP ?_;refine blk_far ?_ NB299_305.out _;refine kP ?_;refine blk_far ?_ NB299_305.out _;exact kP BK299.out) hb);have n3_ := Aside0.mk (blk_below (g := gb300) (o := .cells #[.int .i64 0, .int .i64 0] 75 (0, 0)) (by refine kP ?_;refine blk_far ?_ NB300_305.out _;refine kP ?_;refine blk_far ?_ NB300_305.out _;exact kP BK300.out) hb);have n4_ := Aside0.mk (blk_below (g := gb304) (o := .cells #[.slice Ao15 t301.length co15] 80 (0, 0)) (by refine kP ?_;refine blk_far ?_ NB304_305.out _;refine kP ?_;refine blk_far ?_ NB304_305.out _;exact kP BK304.out) hb);have n5_ := Aside0.mk (blk_below (g := gb305) (o := .cells #[.int .i64 ji7, .int .i64 0] 75 (0, 0)) (by refine kP ?_;refine blk_put (cs := #[.int .i64 ji7, .int .i64 0]) ?_ 1 _ rfl;refine kP ?_;refine blk_put (cs := #[.int .i64 0, .int .i64 0]) ?_ 0 _ rfl;exact kP BK305.out) hb);have n6_ := Aside0.mk (below_step (by exact bB) hb);clear HO303;clear BK299;clear BK300;clear BK304;clear BK305;clear HB;have HO303 := n0_;have HO308 := n1_;have BK299 := n2_;have BK300 := n3_;have BK304 := n4_;have BK305 := n5_;have HB := n6_;clear n0_ n1_ n2_ n3_ n4_ n5_ n6_;clear hb ho25))
   have n0_ := Aside0.mk (Kd.R_drew HO303.out)
   have n1_ := Aside0.mk (Kd.R_drew HO308.out)
   have n2_ := Aside0.mk (blk_drew BK299.out)
   have n3_ := Aside0.mk (blk_drew BK300.out)
   have n4_ := Aside0.mk (blk_drew BK304.out)
   have n5_ := Aside0.mk (blk_drew BK305.out)
   have n6_ := Aside0.mk (below_drew1 HB.out)
   clear HO303
   clear HO308
   clear BK299
   clear BK300
   clear BK304
   clear BK305
   clear HB
   have HO303 := n0_
   have HO308 := n1_
   have BK299 := n2_
   have BK300 := n3_
   have BK304 := n4_
   have BK305 := n5_
   have HB := n6_
   clear n0_ n1_ n2_ n3_ n4_ n5_ n6_
   refine start_ (n := 4) (S := fun w' => w'.cell? ⟨gb305, 0, none⟩ = some (.int .i64 ji7) ∧ w'.cell? ⟨gb305, 1, none⟩ = some (.int .i64 0)) (ds := []) #[false,false,false,false] (by kernel_rfl) rfl rfl ⟨(blk_cell BK305.out 0).trans rfl, (blk_cell BK305.out 1).trans rfl⟩ (fun hHeld => ?_)
   generalize w24.drew = w26 at HO303 HO308 BK299 BK300 BK304 BK305 HB hHeld ⊢
   refine pure_ (i := 1) (N := some 8) (v := ?_) (a' := ?_) #[false,true,false,false] rfl rfl (by kernel_rfl) (fun _ _ _ h => h) (Or.inl ⟨by rfl, ?_⟩) ?_ ?_
   rotate_left
   ·intro w'
    go_simp
    with_reducible rfl
   rotate_left
   ·simp only [Act.put, List.setIfInBounds_toArray, List.set_cons_zero, List.set_cons_succ, i64_w, i32_w]
    rfl
   refine take_ (i := 0) (N := some 27) (v := ?_) (a' := ?_) #[true,true,false,false] rfl rfl (by kernel_rfl) (fun _ _ _ h => h) (Or.inl ⟨by rfl, ?_⟩) hHeld ?_ ?_
   rotate_left
   ·rintro w' ⟨s0, s1⟩
    go_simp
    with_reducible rfl
   rotate_left
   ·simp only [Act.put, List.setIfInBounds_toArray, List.set_cons_zero, List.set_cons_succ, i64_w, i32_w]
    rfl
   refine one_ (i := 2) (N := none) #[true,true,true,false] rfl rfl (by kernel_rfl) (by decide) (fun K hK => ?_)
   have hs27 : w26.cell? ⟨gb300, 0, none⟩ = some (.int .i64 0) := (blk_cell BK300.out 0).trans rfl
   have hfs27 := blk_frozen BK300.out 0
   have hns27_0 := NB299_300.out
   have hns27_2 := NB304_300.out
   have hns27_3 := NB305_300.out
   have hms27_0 := NB300_299.out
   have hms27_2 := NB300_304.out
   have hms27_3 := NB300_305.out
   have hs28 : w26.cell? ⟨gb300, 1, none⟩ = some (.int .i64 0) := (blk_cell BK300.out 1).trans rfl
   have hfs28 := blk_frozen BK300.out 1
   have hns28_0 := NB299_300.out
   have hns28_2 := NB304_300.out
   have hns28_3 := NB305_300.out
   have hms28_0 := NB300_299.out
   have hms28_2 := NB300_304.out
   have hms28_3 := NB300_305.out
   refine skip_ (w1 := ?_) (by rfl) rfl ?_ ?_
   rotate_left
   ·go_simp
    rfl
   refine hK.out _ _ ⟨((cell_far (p := ⟨gb300, _, none⟩) NB305_300.out _).trans (((cell_far (p := ⟨gb300, _, none⟩) NB305_300.out _).trans (hHeld.1)))), ((cell_far (p := ⟨gb300, _, none⟩) NB305_300.out _).trans (((cell_far (p := ⟨gb300, _, none⟩) NB305_300.out _).trans (hHeld.2))))⟩ (fun hHeld => ?_)
   clear hK K
   refine pure_ (i := 3) (N := some 10) (v := ?_) (a' := ?_) #[true,true,true,true] rfl rfl (by kernel_rfl) (fun _ _ _ h => h) (Or.inl ⟨by rfl, ?_⟩) ?_ ?_
   rotate_left
   ·intro w'
    go_simp
    with_reducible rfl
   rotate_left
   ·simp only [Act.put, List.setIfInBounds_toArray, List.set_cons_zero, List.set_cons_succ, i64_w, i32_w]
    rfl
   refine done_ (by kernel_rfl) ?_
   try go_wp2
   refine bodyPost_ret (results_list (rs := [.tmp 8, .cell 9 75, .tmp 10]) rfl (by simp) (.tmp (.cell gb300 75 #[.int .i64 ji7, .int .i64 0] (0, 0) _ rfl (by refine kP ?_;refine blk_put (cs := #[.int .i64 ji7, .int .i64 0]) ?_ 1 _ rfl;refine kP ?_;refine blk_put (cs := #[.int .i64 0, .int .i64 0]) ?_ 0 _ rfl;exact kP BK300.out) Try.underlying75 rfl (by kernel_rfl) (.tmp .nil)))) rfl ?_
   exact ⟨_, by first | rfl | (simp [errW_none, errW_some] <;> rfl) | (simp only [← hji7];first | rfl | (simp [errW_none, errW_some] <;> rfl)) | (simp [*, errW_none, errW_some] <;> rfl), by first | exact Kd.R_nil _ _ _ _ _ | exact Kd.N_nil _ _ _ _ _ | exact Kd.V_nil _ _ _ _ _ | exact Kd.Q_nil _ _ _ _ _ | exact Kd.S_nil _ _ _ _ _, by exact bB⟩
  ·rw [if_neg c8] at H
   have c8b0 : decide (8 < (l3.length : Int)) = false := decide_eq_false c8
   have c8b1 : decide (8 < l3.length) = false := decide_eq_false (by omega)
   clear c8
   have H' := Aside0.mk H
   clear H
   go_enter Try.func70, Try.ntmps70
   go_wp2_with (first | ((with_reducible refine gate_dst (N := 4) rfl ?_);refine box_event ?hg (N := 4) ?hd (cs := #[.int .i64 a0_0, .slice A0_1 l0_1.length c0_1]) (t := 31) ?hr ?_;(case hd => rfl);(case hg => rfl);(case hr => first | (go_simp;done) | (go_simp;rfl));intro gb299 hg w29 hbox hb;have n0_ := Aside0.mk (below_step (by exact bB) hb);have n1_ := Aside0.mk (hbox);have n2_ := Aside0.mk ((by rw [hg];exact (below_size (by exact bB)) : w.heap.size ≤ gb299));have n3_ := Aside0.mk ((by rw [hg];exact (below_size (by exact bB)) : w.heap.size ≤ gb299));clear HB;have HB := n0_;have BK299 := n1_;have GW299 := n2_;have GE299 := n3_;clear n0_ n1_ n2_ n3_;clear hb hbox hg) | ((with_reducible refine gate_dst (N := 9) rfl ?_);refine box_event ?hg (N := 9) ?hd (cs := #[.int .i64 0, .int .i64 0]) (t := 75) ?hr ?_;(case hd => rfl);(case hg => rfl);(case hr => first | (go_simp;done) | (go_simp;rfl));intro gb300 hg w30 hbox hb;have n0_ := Aside0.mk (blk_below (g := gb299) (o := .cells #[.int .i64 a0_0, .slice A0_1 l0_1.length c0_1] 31 (0, 0)) (by exact kP BK299.out) hb);have n1_ := Aside0.mk (below_step (by exact bB) hb);have n2_ := Aside0.mk (hbox);have n3_ := Aside0.mk ((by rw [hg];exact (below_size (by exact bB)) : w.heap.size ≤ gb300));have n4_ := Aside0.mk ((by rw [hg];exact (below_size (by exact bB)) : w.heap.size ≤ gb300));have n5_ := Aside0.mk ((by rw [hg];exact Nat.ne_of_lt (blk_lt (g := gb299) (o := .cells #[.int .i64 a0_0, .slice A0_1 l0_1.length c0_1] 31 (0, 0)) (by exact kP BK299.out)) : gb299 ≠ gb300));have n6_ := Aside0.mk ((by rw [hg];exact Nat.ne_of_gt (blk_lt (g := gb299) (o := .cells #[.int .i64 a0_0, .slice A0_1 l0_1.length c0_1] 31 (0, 0)) (by exact kP BK299.out)) : gb300 ≠ gb299));clear BK299;clear HB;have BK299 := n0_;have HB := n1_;have BK300 := n2_;have GW300 := n3_;have GE300 := n4_;have NB299_300 := n5_;have NB300_299 := n6_;clear n0_ n1_ n2_ n3_ n4_ n5_ n6_;clear hb hbox hg;have hnb31 := NB299_300.out;have hnc31 := NB300_299.out;have hcz32_0 : w30.cell? ⟨gb299, 0, none⟩ = some (.int .i64 a0_0) := (blk_cell BK299.out 0).trans rfl;have hcz32_1 : w30.cell? ⟨gb299, 1, none⟩ = some (.slice A0_1 l0_1.length c0_1) := (blk_cell BK299.out 1).trans rfl;have hfz32_0 := blk_frozen BK299.out 0;have hfz32_1 := blk_frozen BK299.out 1) | ((with_reducible refine gate_callee (f := 72) rfl ?_);refine goesL_ (some 17) rfl rfl Try.func72 (by kernel_rfl) rfl #[.agg #[.int .i64 a0_0, .slice A0_1 l0_1.length c0_1]] rfl mM ?_;(with_reducible refine (impl_netOf.calls a0_0 _ _ l0_1 t301 _ ?side1 ?side2 A5.out).mono ?_);(case side1 => exact cP (Kd.C_below HR0_1.out HB.out));(case side2 => exact HC0_1.out);rintro e w33 ⟨v302, rfl, ho0, hb⟩;refine ⟨_, rfl, ?_⟩;have n0_ := Aside0.mk (Kd.R_lower ho0 (below_size (by exact bB)));have n1_ := Aside0.mk (blk_below (g := gb299) (o := .cells #[.int .i64 a0_0, .slice A0_1 l0_1.length c0_1] 31 (0, 0)) (by exact kP BK299.out) hb);have n2_ := Aside0.mk (blk_below (g := gb300) (o := .cells #[.int .i64 0, .int .i64 0] 75 (0, 0)) (by exact kP BK300.out) hb);have n3_ := Aside0.mk (below_step (by exact bB) hb);clear BK299;clear BK300;clear HB;have HO303 := n0_;have BK299 := n1_;have BK300 := n2_;have HB := n3_;clear n0_ n1_ n2_ n3_;(try clear hb);(try clear hb2);(try clear hk);(try clear hi);(try clear ho0)) | ((with_reducible refine gate_dst (N := 11) rfl ?_);refine box_event ?hg (N := 11) ?hd (cs := #[.slice none 0 0]) (t := 80) ?hr ?_;(case hd => rfl);(case hg => rfl);(case hr => first | (go_simp;done) | (go_simp;rfl));intro gb304 hg w34 hbox hb;have n0_ := Aside0.mk (Kd.R_below (by exact rP HO303.out) hb);have n1_ := Aside0.mk (blk_below (g := gb299) (o := .cells #[.int .i64 a0_0, .slice A0_1 l0_1.length c0_1] 31 (0, 0)) (by exact kP BK299.out) hb);have n2_ := Aside0.mk (blk_below (g := gb300) (o := .cells #[.int .i64 0, .int .i64 0] 75 (0, 0)) (by exact kP BK300.out) hb);have n3_ := Aside0.mk (below_step (by exact bB) hb);have n4_ := Aside0.mk (hbox);have n5_ := Aside0.mk ((by rw [hg];exact (below_size (by exact bB)) : w.heap.size ≤ gb304));have n6_ := Aside0.mk ((by rw [hg];exact (below_size (by exact bB)) : w.heap.size ≤ gb304));have n7_ := Aside0.mk ((by rw [hg];exact Nat.ne_of_lt (blk_lt (g := gb299) (o := .cells #[.int .i64 a0_0, .slice A0_1 l0_1.length c0_1] 31 (0, 0)) (by exact kP BK299.out)) : gb299 ≠ gb304));have n8_ := Aside0.mk ((by rw [hg];exact Nat.ne_of_gt (blk_lt (g := gb299) (o := .cells #[.int .i64 a0_0, .slice A0_1 l0_1.length c0_1] 31 (0, 0)) (by exact kP BK299.out)) : gb304 ≠ gb299));have n9_ := Aside0.mk ((by rw [hg];exact Nat.ne_of_lt (blk_lt (g := gb300) (o := .cells #[.int .i64 0, .int .i64 0] 75 (0, 0)) (by exact kP BK300.out)) : gb300 ≠ gb304));have n10_ := Aside0.mk ((by rw [hg];exact Nat.ne_of_gt (blk_lt (g := gb300) (o := .cells #[.int .i64 0, .int .i64 0] 75 (0, 0)) (by exact kP BK300.out)) : gb304 ≠ gb300));clear HO303;clear BK299;clear BK300;clear HB;have HO303 := n0_;have BK299 := n1_;have BK300 := n2_;have HB := n3_;have BK304 := n4_;have GW304 := n5_;have GE304 := n6_;have NB299_304 := n7_;have NB304_299 := n8_;have NB300_304 := n9_;have NB304_300 := n10_;clear n0_ n1_ n2_ n3_ n4_ n5_ n6_ n7_ n8_ n9_ n10_;clear hb hbox hg;obtain ⟨Ao35, co35, eo35⟩ := Kd.R_slice HO303.out;subst eo35;have hnb36 := NB304_299.out;have hnc36 := NB299_304.out;have hnb37 := NB304_300.out;have hnc37 := NB300_304.out;have hcz38_0 : w34.cell? ⟨gb304, 0, none⟩ = some (.slice none 0 0) := (blk_cell BK304.out 0).trans rfl;have hfz38_0 := blk_frozen BK304.out 0) | ((with_reducible refine gate_dst (N := 12) rfl ?_);refine box_event ?hg (N := 12) ?hd (cs := #[.int .i64 0, .int .i64 0]) (t := 75) ?hr ?_;(case hd => rfl);(case hg => rfl);(case hr => first | (go_simp;done) | (go_simp;rfl));intro gb305 hg w39 hbox hb;have n0_ := Aside0.mk (Kd.R_below (by exact rP ((Kd.R_mono (Kd.R_far (p := ⟨gb304, 0, none⟩) (Kd.R_types HO303.out BK304.out (by decide)) (fun _ hk => hk.2) (.slice Ao35 t301.length co35)) (fun _ h_ => h_.1)))) hb);have n1_ := Aside0.mk (blk_below (g := gb299) (o := .cells #[.int .i64 a0_0, .slice A0_1 l0_1.length c0_1] 31 (0, 0)) (by refine kP ?_;refine blk_far ?_ NB299_304.out _;exact kP BK299.out) hb);have n2_ := Aside0.mk (blk_below (g := gb300) (o := .cells #[.int .i64 0, .int .i64 0] 75 (0, 0)) (by refine kP ?_;refine blk_far ?_ NB300_304.out _;exact kP BK300.out) hb);have n3_ := Aside0.mk (blk_below (g := gb304) (o := .cells #[.slice Ao35 t301.length co35] 80 (0, 0)) (by refine kP ?_;refine blk_put (cs := #[.slice none 0 0]) ?_ 0 _ rfl;exact kP BK304.out) hb);have n4_ := Aside0.mk (below_step (by exact bB) hb);have n5_ := Aside0.mk (hbox);have n6_ := Aside0.mk ((by rw [hg];exact (below_size (by exact bB)) : w.heap.size ≤ gb305));have n7_ := Aside0.mk ((by rw [hg];exact (below_size (by exact bB)) : w.heap.size ≤ gb305));have n8_ := Aside0.mk ((by rw [hg];exact Nat.ne_of_lt (blk_lt (g := gb299) (o := .cells #[.int .i64 a0_0, .slice A0_1 l0_1.length c0_1] 31 (0, 0)) (by refine kP ?_;refine blk_far ?_ NB299_304.out _;exact kP BK299.out)) : gb299 ≠ gb305));have n9_ := Aside0.mk ((by rw [hg];exact Nat.ne_of_gt (blk_lt (g := gb299) (o := .cells #[.int .i64 a0_0, .slice A0_1 l0_1.length c0_1] 31 (0, 0)) (by refine kP ?_;refine blk_far ?_ NB299_304.out _;exact kP BK299.out)) : gb305 ≠ gb299));have n10_ := Aside0.mk ((by rw [hg];exact Nat.ne_of_lt (blk_lt (g := gb300) (o := .cells #[.int .i64 0, .int .i64 0] 75 (0, 0)) (by refine kP ?_;refine blk_far ?_ NB300_304.out _;exact kP BK300.out)) : gb300 ≠ gb305));have n11_ := Aside0.mk ((by rw [hg];exact Nat.ne_of_gt (blk_lt (g := gb300) (o := .cells #[.int .i64 0, .int .i64 0] 75 (0, 0)) (by refine kP ?_;refine blk_far ?_ NB300_304.out _;exact kP BK300.out)) : gb305 ≠ gb300));have n12_ := Aside0.mk ((by rw [hg];exact Nat.ne_of_lt (blk_lt (g := gb304) (o := .cells #[.slice Ao35 t301.length co35] 80 (0, 0)) (by refine kP ?_;refine blk_put (cs := #[.slice none 0 0]) ?_ 0 _ rfl;exact kP BK304.out)) : gb304 ≠ gb305));have n13_ := Aside0.mk ((by rw [hg];exact Nat.ne_of_gt (blk_lt (g := gb304) (o := .cells #[.slice Ao35 t301.length co35] 80 (0, 0)) (by refine kP ?_;refine blk_put (cs := #[.slice none 0 0]) ?_ 0 _ rfl;exact kP BK304.out)) : gb305 ≠ gb304));clear HO303;clear BK299;clear BK300;clear BK304;clear HB;have HO303 := n0_;have BK299 := n1_;have BK300 := n2_;have BK304 := n3_;have HB := n4_;have BK305 := n5_;have GW305 := n6_;have GE305 := n7_;have NB299_305 := n8_;have NB305_299 := n9_;have NB300_305 := n10_;have NB305_300 := n11_;have NB304_305 := n12_;have NB305_304 := n13_;clear n0_ n1_ n2_ n3_ n4_ n5_ n6_ n7_ n8_ n9_ n10_ n11_ n12_ n13_;clear hb hbox hg;have hnb40 := NB305_299.out;have hnc40 := NB299_305.out;have hnb41 := NB305_300.out;have hnc41 := NB300_305.out;have hnb42 := NB305_304.out;have hnc42 := NB304_305.out;have hcz43_0 : w39.cell? ⟨gb305, 0, none⟩ = some (.int .i64 0) := (blk_cell BK305.out 0).trans rfl;have hcz43_1 : w39.cell? ⟨gb305, 1, none⟩ = some (.int .i64 0) := (blk_cell BK305.out 1).trans rfl;have hfz43_0 := blk_frozen BK305.out 0;have hfz43_1 := blk_frozen BK305.out 1) | ((with_reducible refine gate_dst (N := 23) rfl ?_);refine Kd.R_lit (Kd.int .i64) _ 3 ?hg (N := 23) ?hd (xs := ([ji7] : List Int)) (inner := [.int .i64 ji7]) (ok := fun _ => True) (okp := fun _ => True) ?hr ?hp (fun _ hk => hk) trivial (Below.refl _ _) (Nat.le_refl _) (by simp) ?_;(case hd => rfl);(case hg => rfl);(case hr => first | (go_simp;done) | (go_simp;rfl));(case hp => exact (Reps.one (show Kd.M (Kd.int .i64) _ _ _ ji7 [.int .i64 ji7] from rfl) (Reps.none _ _)));intro v307 w44 ho45 hb hg_ hnew_;clear hg_ hnew_;(first | rw [← Ny306.out] at ho45 | (simp only [Int.reduceToNat] at ho45;rw [← Ny306.out] at ho45));have n0_ := Aside0.mk (Kd.R_elder' (by exact rP ((Kd.R_mono (Kd.R_far (p := ⟨gb305, 1, none⟩) (Kd.R_far (p := ⟨gb305, 0, none⟩) (Kd.R_types HO303.out BK305.out (by decide)) (fun _ hk => hk.2) (.int .i64 ji7)) (fun _ hk => hk.2) (.int .i64 0)) (fun _ h_ => h_.1)))) (Kd.R_base ho45) hb);have n1_ := Aside0.mk (Kd.R_lower (Kd.R_new' ho45 (Kd.R_lt (by exact rP ((Kd.R_mono (Kd.R_far (p := ⟨gb305, 1, none⟩) (Kd.R_far (p := ⟨gb305, 0, none⟩) (Kd.R_types HO303.out BK305.out (by decide)) (fun _ hk => hk.2) (.int .i64 ji7)) (fun _ hk => hk.2) (.int .i64 0)) (fun _ h_ => h_.1)))))) (below_size (by exact bB)));have n2_ := Aside0.mk (blk_below (g := gb299) (o := .cells #[.int .i64 a0_0, .slice A0_1 l0_1.length c0_1] 31 (0, 0)) (by refine kP ?_;refine blk_far ?_ NB299_305.out _;refine kP ?_;refine blk_far ?_ NB299_305.out _;exact kP BK299.out) hb);have n3_ := Aside0.mk (blk_below (g := gb300) (o := .cells #[.int .i64 0, .int .i64 0] 75 (0, 0)) (by refine kP ?_;refine blk_far ?_ NB300_305.out _;refine kP ?_;refine blk_far ?_ NB300_305.out _;exact kP BK300.out) hb);have n4_ := Aside0.mk (blk_below (g := gb304) (o := .cells #[.slice Ao35 t301.length co35] 80 (0, 0)) (by refine kP ?_;refine blk_far ?_ NB304_305.out _;refine kP ?_;refine blk_far ?_ NB304_305.out _;exact kP BK304.out) hb);have n5_ := Aside0.mk (blk_below (g := gb305) (o := .cells #[.int .i64 ji7, .int .i64 0] 75 (0, 0)) (by refine kP ?_;refine blk_put (cs := #[.int .i64 ji7, .int .i64 0]) ?_ 1 _ rfl;refine kP ?_;refine blk_put (cs := #[.int .i64 0, .int .i64 0]) ?_ 0 _ rfl;exact kP BK305.out) hb);have n6_ := Aside0.mk (below_step (by exact bB) hb);clear HO303;clear BK299;clear BK300;clear BK304;clear BK305;clear HB;have HO303 := n0_;have HO308 := n1_;have BK299 := n2_;have BK300 := n3_;have BK304 := n4_;have BK305 := n5_;have HB := n6_;clear n0_ n1_ n2_ n3_ n4_ n5_ n6_;clear hb ho45))
   go_loopg [13, 14] k (fun kq v13 v14 w' => ∃ (x13_1 : List Int) (x14_1 : Int) (x301000_1 : Int) (x301001_1 : Int) (x306000_1 : Int) (x306001_1 : Int), v14 = .int .i64 x14_1 ∧ Aside0 (impl_firePlan.l0 kq a2 l3 x13_1 x14_1 a0_0 l0_1 t301 x306000_1 x306001_1 = some (r1, r2, r3, r4)) ∧ Aside0 (kq ≤ k) ∧ Aside0 (Kd.R (Kd.int .i64) 3 w' w.heap.size (fun k_ => some k_ ≠ ((.slice Ao35 t301.length co35) : Value).ownBlock) v13 x13_1) ∧ Aside0 (Kd.R (Kd.int .i64) 3 w' w.heap.size (fun k_ => some k_ ≠ (v13 : Value).ownBlock) (.slice Ao35 t301.length co35) t301) ∧ Aside0 (w'.heap[gb299]? = some (.cells #[.int .i64 a0_0, (.slice A0_1 l0_1.length c0_1)] 31 (0, 0))) ∧ Aside0 (w'.heap[gb300]? = some (.cells #[.int .i64 x301000_1, .int .i64 x301001_1] 75 (0, 0))) ∧ Aside0 (w'.heap[gb304]? = some (.cells #[(.slice Ao35 t301.length co35)] 80 (0, 0))) ∧ Aside0 (w'.heap[gb305]? = some (.cells #[.int .i64 x306000_1, .int .i64 x306001_1] 75 (0, 0))) ∧ Aside0 (Below w.heap.size w w'))
   case atStart => exact ⟨(y306), (0), (0), (0), (ji7), (0), (by first | rfl | (simp;done) | (simp [*];done)), H', ⟨Nat.le_refl _⟩, ⟨by refine rP ?_;exact Kd.R_mono HO308.out (fun _ hk => hk.2)⟩, ⟨by refine rP ?_;exact Kd.R_mono HO303.out (fun _ hk => hk.2)⟩, ⟨by exact kP BK299.out⟩, ⟨by exact kP BK300.out⟩, ⟨by exact kP BK304.out⟩, ⟨by exact kP BK305.out⟩, ⟨by exact bB⟩⟩
   case round =>
    clear H'
    try clear c1
    try clear c2
    try clear p2
    try clear c3
    try clear c4
    try clear c6
    try clear c6b0
    try clear c6b1
    try clear p6
    try clear c7
    try clear c8
    try clear c8b0
    try clear c8b1
    try clear c11
    try clear c16
    try clear c17
    try clear c20
    try clear c21
    try clear c22
    try clear c31
    try clear c36
    try clear c37
    try clear c40
    try clear c41
    try clear c42
    try clear hcz12_0
    try clear hcz12_1
    try clear hcz18_0
    try clear hcz23_0
    try clear hcz23_1
    try clear hcz32_0
    try clear hcz32_1
    try clear hcz38_0
    try clear hcz43_0
    try clear hcz43_1
    try clear hfz12_0
    try clear hfz12_1
    try clear hfz18_0
    try clear hfz23_0
    try clear hfz23_1
    try clear hfz32_0
    try clear hfz32_1
    try clear hfz38_0
    try clear hfz43_0
    try clear hfz43_1
    obtain ⟨x13_1, x14_1, x301000_1, x301001_1, x306000_1, x306001_1, rfl, HA, HK1, HO_13, HO_305000, BK299, BK300, BK304, BK305, HB⟩ := hrel
    cases gk with
    | zero => exact absurd HA.out (by simp [impl_firePlan.l0])
    | succ k1 =>
     have H := HA.out
     clear HA
     simp only [impl_firePlan.l0] at H
     have HC46 := Aside0.mk H
     clear H
     go_upto_region 7 with (fail)
     go_cut [37] (fun v37 wc => ∃ (kq : Nat) (x37_45 : Bool), v37 = .bool x37_45 ∧ Aside0 (impl_firePlan.j1 kq a2 l3 x13_1 x14_1 x37_45 a0_0 l0_1 t301 x306000_1 x306001_1 = some (r1, r2, r3, r4)) ∧ Aside0 (kq ≤ k1) ∧ Aside0 (Kd.R (Kd.int .i64) 3 wc w.heap.size (fun k_ => some k_ ≠ ((.slice Ao35 t301.length co35) : Value).ownBlock) u13 x13_1) ∧ Aside0 (Kd.R (Kd.int .i64) 3 wc w.heap.size (fun k_ => some k_ ≠ (u13 : Value).ownBlock) (.slice Ao35 t301.length co35) t301) ∧ Aside0 (wc.heap[gb299]? = some (.cells #[.int .i64 a0_0, (.slice A0_1 l0_1.length c0_1)] 31 (0, 0))) ∧ Aside0 (wc.heap[gb300]? = some (.cells #[.int .i64 x301000_1, .int .i64 x301001_1] 75 (0, 0))) ∧ Aside0 (wc.heap[gb304]? = some (.cells #[(.slice Ao35 t301.length co35)] 80 (0, 0))) ∧ Aside0 (wc.heap[gb305]? = some (.cells #[.int .i64 x306000_1, .int .i64 x306001_1] 75 (0, 0))) ∧ Aside0 (Below w.heap.size w wc))
     case first =>
      have H := HC46.out
      clear HC46
      by_cases c47 : x14_1 < (l3.length : Int)
      ·rw [if_pos c47] at H
       have c47b0 : decide (x14_1 < (l3.length : Int)) = true := decide_eq_true c47
       clear c47
       (first | rw [c47b0] | (simp only [i64_w, i32_w];rw [c47b0]) | skip)
       have H' := Aside0.mk H
       clear H
       go_wp2
       go_meet
       case rel => exact ⟨_, (true), (by first | rfl | (simp;done) | (simp [*];done)), H', ⟨by have := HK1.out;first | omega | exact Nat.le_refl _⟩, ⟨by exact rP HO_13.out⟩, ⟨by exact rP HO_305000.out⟩, ⟨by exact kP BK299.out⟩, ⟨by exact kP BK300.out⟩, ⟨by exact kP BK304.out⟩, ⟨by exact kP BK305.out⟩, ⟨by exact bB⟩⟩
      ·rw [if_neg c47] at H
       have c47b0 : decide (x14_1 < (l3.length : Int)) = false := decide_eq_false c47
       clear c47
       (first | rw [c47b0] | (simp only [i64_w, i32_w];rw [c47b0]) | skip)
       replace H := Option.bind_eq_some_iff.mp H
       obtain ⟨t309, A480, H⟩ := H
       replace H : (impl_firePlan.j1 k1 a2 l3 x13_1 x14_1 (t309 != 0) a0_0 l0_1 t301 x306000_1 x306001_1) = some (r1, r2, r3, r4) := H
       have A48 := Aside0.mk A480
       clear A480
       have H' := Aside0.mk H
       clear H
       have hnb49 := NB304_299.out
       have hnc49 := NB299_304.out
       have hnb50 := NB304_300.out
       have hnc50 := NB300_304.out
       have hnb51 := NB304_305.out
       have hnc51 := NB305_304.out
       have hcz52_0 : wr.cell? ⟨gb304, 0, none⟩ = some (.slice Ao35 t301.length co35) := (blk_cell BK304.out 0).trans rfl
       have hfz52_0 := blk_frozen BK304.out 0
       have hnb53 := NB305_299.out
       have hnc53 := NB299_305.out
       have hnb54 := NB305_300.out
       have hnc54 := NB300_305.out
       have hcz55_0 : wr.cell? ⟨gb305, 0, none⟩ = some (.int .i64 x306000_1) := (blk_cell BK305.out 0).trans rfl
       have hcz55_1 : wr.cell? ⟨gb305, 1, none⟩ = some (.int .i64 x306001_1) := (blk_cell BK305.out 1).trans rfl
       have hfz55_0 := blk_frozen BK305.out 0
       have hfz55_1 := blk_frozen BK305.out 1
       go_wp2_with (first | (go_at_call 122;(with_reducible refine (impl_net_threatened.calls k1 _ _ t301 x306000_1 x306001_1 t309 _ ?side1 ?side2 A48.out).mono ?_);(case side1 => exact cP (Kd.R_reads' HO_305000.out).2.2);(case side2 => exact (Kd.R_reads' HO_305000.out).2.1);rintro e w56 ⟨rfl, hb⟩;have n0_ := Aside0.mk (Kd.R_below (by exact rP HO_13.out) hb);have n1_ := Aside0.mk (Kd.R_below (by exact rP HO_305000.out) hb);have n2_ := Aside0.mk (blk_below (g := gb299) (o := .cells #[.int .i64 a0_0, .slice A0_1 l0_1.length c0_1] 31 (0, 0)) (by exact kP BK299.out) hb);have n3_ := Aside0.mk (blk_below (g := gb300) (o := .cells #[.int .i64 x301000_1, .int .i64 x301001_1] 75 (0, 0)) (by exact kP BK300.out) hb);have n4_ := Aside0.mk (blk_below (g := gb304) (o := .cells #[.slice Ao35 t301.length co35] 80 (0, 0)) (by exact kP BK304.out) hb);have n5_ := Aside0.mk (blk_below (g := gb305) (o := .cells #[.int .i64 x306000_1, .int .i64 x306001_1] 75 (0, 0)) (by exact kP BK305.out) hb);have n6_ := Aside0.mk (below_step (by exact bB) hb);clear HO_13;clear HO_305000;clear BK299;clear BK300;clear BK304;clear BK305;clear HB;have HO_13 := n0_;have HO_305000 := n1_;have BK299 := n2_;have BK300 := n3_;have BK304 := n4_;have BK305 := n5_;have HB := n6_;clear n0_ n1_ n2_ n3_ n4_ n5_ n6_;(try clear hb);(try clear hb2);(try clear hk);(try clear hi)))
       go_meet
       case rel => exact ⟨_, ((t309 != 0)), (by first | rfl | (simp;done) | (simp [*];done)), H', ⟨by have := HK1.out;first | omega | exact Nat.le_refl _⟩, ⟨by exact rP HO_13.out⟩, ⟨by exact rP HO_305000.out⟩, ⟨by exact kP BK299.out⟩, ⟨by exact kP BK300.out⟩, ⟨by exact kP BK304.out⟩, ⟨by exact kP BK305.out⟩, ⟨by exact bB⟩⟩
     case rest =>
      clear HC46
      try clear c1
      try clear c2
      try clear p2
      try clear c3
      try clear c4
      try clear c5
      try clear c6
      try clear c6b0
      try clear c6b1
      try clear p6
      try clear c7
      try clear c8
      try clear c8b0
      try clear c8b1
      try clear c11
      try clear c16
      try clear c17
      try clear c20
      try clear c21
      try clear c22
      try clear c31
      try clear c36
      try clear c37
      try clear c40
      try clear c41
      try clear c42
      try clear c47
      try clear c47b0
      try clear c49
      try clear c50
      try clear c51
      try clear c53
      try clear c54
      try clear hcz12_0
      try clear hcz12_1
      try clear hcz18_0
      try clear hcz23_0
      try clear hcz23_1
      try clear hcz32_0
      try clear hcz32_1
      try clear hcz38_0
      try clear hcz43_0
      try clear hcz43_1
      try clear hcz52_0
      try clear hcz55_0
      try clear hcz55_1
      try clear hfz12_0
      try clear hfz12_1
      try clear hfz18_0
      try clear hfz23_0
      try clear hfz23_1
      try clear hfz32_0
      try clear hfz32_1
      try clear hfz38_0
      try clear hfz43_0
      try clear hfz43_1
      try clear hfz52_0
      try clear hfz55_0
      try clear hfz55_1
      try clear p2
      try clear p6
      obtain ⟨kq, x37_45, rfl, HA, HJ45, HO_13, HO_305000, BK299, BK300, BK304, BK305, HB⟩ := hcut
      cases kq with
      | zero => exact absurd HA.out (by simp [impl_firePlan.j1])
      | succ kj45 =>
       have H := HA.out
       clear HA
       simp only [impl_firePlan.j1] at H
       by_cases c57 : x37_45 = true
       ·subst c57
        have H1 : (if x14_1 < (l3.length : Int) then (if 0 ≤ x14_1 then (if ((rd_L2 l3 x14_1).length : Int) > a2 then (impl_firePlan.j2 kj45 a2 l3 x13_1 x14_1 (rd_L2 l3 x14_1) true a0_0 l0_1 t301 x306000_1 x306001_1) else ((impl_isSet.f kj45 a0_0 l0_1 (rd_L2 l3 x14_1)).bind fun t311 => (if t311 = true then ((impl_maskOf.f kj45 (rd_L2 l3 x14_1)).bind fun t312 => (impl_firePlan.j2 kj45 a2 l3 x13_1 x14_1 (rd_L2 l3 x14_1) ((Go.bits .and .i64 t312 (Go.bits .or .i64 x306000_1 x306001_1)) != 0) a0_0 l0_1 t301 x306000_1 x306001_1)) else (impl_firePlan.j2 kj45 a2 l3 x13_1 x14_1 (rd_L2 l3 x14_1) true a0_0 l0_1 t301 x306000_1 x306001_1)))) else (none)) else ((impl_net_threatened.f kj45 t301 x306000_1 x306001_1).bind fun t318 => (if x13_1.length < 17592186044416 then (impl_firePlan.l0 kj45 a2 l3 (x13_1 ++ [Go.bits .or .i64 x306000_1 t318]) (wrap64 (x14_1 + 1)) a0_0 l0_1 t301 (Go.bits .or .i64 x306000_1 t318) x306001_1) else (none)))) = some (r1, r2, r3, r4) := by rw [if_pos rfl] at H;exact H
        clear H
        have H := H1
        clear H1
        by_cases c58 : x14_1 < (l3.length : Int)
        ·rw [if_pos c58] at H
         have c58b0 : decide (x14_1 < (l3.length : Int)) = true := decide_eq_true c58
         clear c58
         by_cases c59 : 0 ≤ x14_1
         ·rw [if_pos c59] at H
          have c59b0 : decide (0 ≤ x14_1) = true := decide_eq_true c59
          clear c59
          have HC60 := Aside0.mk H
          clear H
          have p310 : 0 ≤ (x14_1 : Int) := oA
          have q310 : x14_1 < (l3.length : Int) := oA
          obtain ⟨ad310, A310_0, c310_0, e310, hx310_0, hl310_0, hi310_0⟩ := at_L2 HR3.out x14_1 p310 q310
          cases e310
          replace hx310_0 := (HB.out.cell (World.block_lt_of_cell? w _ hx310_0)).trans hx310_0
          have HR310_0 := Aside0.mk hi310_0
          have HC310_0 := Aside0.mk hl310_0
          clear hi310_0 hl310_0
          replace p310 := eq_true p310
          replace q310 := eq_true q310
          go_upto_region 11 with (fail)
          go_cut [68] (fun v68 wc => ∃ (kq : Nat) (x68_59 : Bool), v68 = .bool x68_59 ∧ Aside0 (impl_firePlan.j2 kq a2 l3 x13_1 x14_1 (rd_L2 l3 x14_1) x68_59 a0_0 l0_1 t301 x306000_1 x306001_1 = some (r1, r2, r3, r4)) ∧ Aside0 (kq ≤ kj45) ∧ Aside0 (Kd.R (Kd.int .i64) 3 wc w.heap.size (fun k_ => some k_ ≠ ((.slice Ao35 t301.length co35) : Value).ownBlock) u13 x13_1) ∧ Aside0 (Kd.R (Kd.int .i64) 3 wc w.heap.size (fun k_ => some k_ ≠ (u13 : Value).ownBlock) (.slice Ao35 t301.length co35) t301) ∧ Aside0 (wc.heap[gb299]? = some (.cells #[.int .i64 a0_0, (.slice A0_1 l0_1.length c0_1)] 31 (0, 0))) ∧ Aside0 (wc.heap[gb300]? = some (.cells #[.int .i64 x301000_1, .int .i64 x301001_1] 75 (0, 0))) ∧ Aside0 (wc.heap[gb304]? = some (.cells #[(.slice Ao35 t301.length co35)] 80 (0, 0))) ∧ Aside0 (wc.heap[gb305]? = some (.cells #[.int .i64 x306000_1, .int .i64 x306001_1] 75 (0, 0))) ∧ Aside0 (Below w.heap.size w wc))
          case first =>
           have H := HC60.out
           clear HC60
           by_cases c61 : ((rd_L2 l3 x14_1).length : Int) > a2
           ·rw [if_pos c61] at H
            have c61b0 : decide (a2 < ((rd_L2 l3 x14_1).length : Int)) = true := decide_eq_true c61
            clear c61
            (first | rw [c61b0] | (simp only [i64_w, i32_w];rw [c61b0]) | skip)
            have H' := Aside0.mk H
            clear H
            try go_wp2
            have n0_ := Aside0.mk (Kd.R_drew HO_13.out)
            have n1_ := Aside0.mk (Kd.R_drew HO_305000.out)
            have n2_ := Aside0.mk (blk_drew BK299.out)
            have n3_ := Aside0.mk (blk_drew BK300.out)
            have n4_ := Aside0.mk (blk_drew BK304.out)
            have n5_ := Aside0.mk (blk_drew BK305.out)
            have n6_ := Aside0.mk (below_drew1 HB.out)
            clear HO_13
            clear HO_305000
            clear BK299
            clear BK300
            clear BK304
            clear BK305
            clear HB
            have HO_13 := n0_
            have HO_305000 := n1_
            have BK299 := n2_
            have BK300 := n3_
            have BK304 := n4_
            have BK305 := n5_
            have HB := n6_
            clear n0_ n1_ n2_ n3_ n4_ n5_ n6_
            refine start_ (n := 21) (S := fun w' => True) (ds := []) #[false,false,false,false,false,false,false,false,false,false,false,false,false,false,false,false,false,false,false,false,false] (by kernel_rfl) rfl rfl trivial (fun hHeld => ?_);refine with_tabW impl_firePlan.tab11 impl_firePlan.bits11 (fun HT_ HW_ => ?_)
            generalize wc.drew = w62 at HO_13 HO_305000 BK299 BK300 BK304 BK305 HB hHeld ⊢
            refine pure_ (i := 0) (N := some 48) (v := ?_) (a' := ?_) #[true,false,false,false,false,false,false,false,false,false,false,false,false,false,false,false,false,false,false,false,false] rfl rfl (any_of HT_.out (by kernel_rfl)) (fun _ _ _ h => h) (Or.inl ⟨by rfl, ?_⟩) ?_ ?_
            rotate_left
            ·intro w'
             go_simp
             with_reducible rfl
            rotate_left
            ·simp only [Act.put, List.setIfInBounds_toArray, List.set_cons_zero, List.set_cons_succ, i64_w, i32_w]
             rfl
            refine pure_ (i := 1) (N := some 49) (v := ?_) (a' := ?_) #[true,true,false,false,false,false,false,false,false,false,false,false,false,false,false,false,false,false,false,false,false] rfl rfl (any_of HT_.out (by kernel_rfl)) (fun _ _ _ h => h) (Or.inl ⟨by rfl, ?_⟩) ?_ ?_
            rotate_left
            ·intro w'
             go_simp
             with_reducible rfl
            rotate_left
            ·simp only [Act.put, List.setIfInBounds_toArray, List.set_cons_zero, List.set_cons_succ, i64_w, i32_w]
             rfl
            refine pure_ (i := 2) (N := some 50) (v := ?_) (a' := ?_) #[true,true,true,false,false,false,false,false,false,false,false,false,false,false,false,false,false,false,false,false,false] rfl rfl (any_of HT_.out (by kernel_rfl)) (fun _ _ _ h => h) (Or.inl ⟨by rfl, ?_⟩) ?_ ?_
            rotate_left
            ·intro w'
             go_simp
             with_reducible rfl
            rotate_left
            ·simp only [Act.put, List.setIfInBounds_toArray, List.set_cons_zero, List.set_cons_succ, i64_w, i32_w]
             rfl
            refine pure_ (i := 3) (N := some 51) (v := ?_) (a' := ?_) #[true,true,true,true,false,false,false,false,false,false,false,false,false,false,false,false,false,false,false,false,false] rfl rfl (any_of HT_.out (by kernel_rfl)) (fun _ _ _ h => h) (Or.inl ⟨by rfl, ?_⟩) ?_ ?_
            rotate_left
            ·intro w'
             go_simp
             with_reducible rfl
            rotate_left
            ·simp only [Act.put, List.setIfInBounds_toArray, List.set_cons_zero, List.set_cons_succ, i64_w, i32_w]
             rfl
            refine pure_ (i := 4) (N := some 52) (v := ?_) (a' := ?_) #[true,true,true,true,true,false,false,false,false,false,false,false,false,false,false,false,false,false,false,false,false] rfl rfl (any_of HT_.out (by kernel_rfl)) (fun _ _ _ h => h) (Or.inl ⟨by rfl, ?_⟩) ?_ ?_
            rotate_left
            ·intro w'
             go_simp
             with_reducible rfl
            rotate_left
            ·simp only [Act.put, List.setIfInBounds_toArray, List.set_cons_zero, List.set_cons_succ, i64_w, i32_w]
             rfl
            refine pure_ (i := 5) (N := some 53) (v := undef) (a' := ?_) #[true,true,true,true,true,true,false,false,false,false,false,false,false,false,false,false,false,false,false,false,false] rfl rfl (any_of HT_.out (by kernel_rfl)) (fun _ _ _ h => h) (Or.inr ⟨by rfl, rfl⟩) ?_ ?_
            rotate_left
            ·simp only [Act.put, List.setIfInBounds_toArray, List.set_cons_zero, List.set_cons_succ, i64_w, i32_w]
             rfl
            refine pure_ (i := 6) (N := some 54) (v := undef) (a' := ?_) #[true,true,true,true,true,true,true,false,false,false,false,false,false,false,false,false,false,false,false,false,false] rfl rfl (any_of HT_.out (by kernel_rfl)) (fun _ _ _ h => h) (Or.inr ⟨by rfl, rfl⟩) ?_ ?_
            rotate_left
            ·simp only [Act.put, List.setIfInBounds_toArray, List.set_cons_zero, List.set_cons_succ, i64_w, i32_w]
             rfl
            refine pure_ (i := 7) (N := some 55) (v := undef) (a' := ?_) #[true,true,true,true,true,true,true,true,false,false,false,false,false,false,false,false,false,false,false,false,false] rfl rfl (any_of HT_.out (by kernel_rfl)) (fun _ _ _ h => h) (Or.inr ⟨by rfl, rfl⟩) ?_ ?_
            rotate_left
            ·simp only [Act.put, List.setIfInBounds_toArray, List.set_cons_zero, List.set_cons_succ, i64_w, i32_w]
             rfl
            refine pure_ (i := 8) (N := some 56) (v := undef) (a' := ?_) #[true,true,true,true,true,true,true,true,true,false,false,false,false,false,false,false,false,false,false,false,false] rfl rfl (any_of HT_.out (by kernel_rfl)) (fun _ _ _ h => h) (Or.inr ⟨by rfl, rfl⟩) ?_ ?_
            rotate_left
            ·simp only [Act.put, List.setIfInBounds_toArray, List.set_cons_zero, List.set_cons_succ, i64_w, i32_w]
             rfl
            refine pure_ (i := 9) (N := some 57) (v := ?_) (a' := ?_) #[true,true,true,true,true,true,true,true,true,true,false,false,false,false,false,false,false,false,false,false,false] rfl rfl (any_of HT_.out (by kernel_rfl)) (fun _ _ _ h => h) (Or.inl ⟨by rfl, ?_⟩) ?_ ?_
            rotate_left
            ·intro w'
             go_simp
             with_reducible rfl
            rotate_left
            ·simp only [Act.put, List.setIfInBounds_toArray, List.set_cons_zero, List.set_cons_succ, i64_w, i32_w]
             rfl
            refine pure_ (i := 10) (N := some 58) (v := ?_) (a' := ?_) #[true,true,true,true,true,true,true,true,true,true,true,false,false,false,false,false,false,false,false,false,false] rfl rfl (any_of HT_.out (by kernel_rfl)) (fun _ _ _ h => h) (Or.inl ⟨by rfl, ?_⟩) ?_ ?_
            rotate_left
            ·intro w'
             go_simp
             with_reducible rfl
            rotate_left
            ·simp only [Act.put, List.setIfInBounds_toArray, List.set_cons_zero, List.set_cons_succ, i64_w, i32_w]
             rfl
            refine pure_ (i := 11) (N := some 59) (v := undef) (a' := ?_) #[true,true,true,true,true,true,true,true,true,true,true,true,false,false,false,false,false,false,false,false,false] rfl rfl (any_of HT_.out (by kernel_rfl)) (fun _ _ _ h => h) (Or.inr ⟨by rfl, rfl⟩) ?_ ?_
            rotate_left
            ·simp only [Act.put, List.setIfInBounds_toArray, List.set_cons_zero, List.set_cons_succ, i64_w, i32_w]
             rfl
            refine pure_ (i := 12) (N := some 60) (v := undef) (a' := ?_) #[true,true,true,true,true,true,true,true,true,true,true,true,true,false,false,false,false,false,false,false,false] rfl rfl (any_of HT_.out (by kernel_rfl)) (fun _ _ _ h => h) (Or.inr ⟨by rfl, rfl⟩) ?_ ?_
            rotate_left
            ·simp only [Act.put, List.setIfInBounds_toArray, List.set_cons_zero, List.set_cons_succ, i64_w, i32_w]
             rfl
            refine pure_ (i := 13) (N := some 61) (v := undef) (a' := ?_) #[true,true,true,true,true,true,true,true,true,true,true,true,true,true,false,false,false,false,false,false,false] rfl rfl (any_of HT_.out (by kernel_rfl)) (fun _ _ _ h => h) (Or.inr ⟨by rfl, rfl⟩) ?_ ?_
            rotate_left
            ·simp only [Act.put, List.setIfInBounds_toArray, List.set_cons_zero, List.set_cons_succ, i64_w, i32_w]
             rfl
            refine pure_ (i := 14) (N := some 62) (v := undef) (a' := ?_) #[true,true,true,true,true,true,true,true,true,true,true,true,true,true,true,false,false,false,false,false,false] rfl rfl (any_of HT_.out (by kernel_rfl)) (fun _ _ _ h => h) (Or.inr ⟨by rfl, rfl⟩) ?_ ?_
            rotate_left
            ·simp only [Act.put, List.setIfInBounds_toArray, List.set_cons_zero, List.set_cons_succ, i64_w, i32_w]
             rfl
            refine pure_ (i := 15) (N := some 63) (v := undef) (a' := ?_) #[true,true,true,true,true,true,true,true,true,true,true,true,true,true,true,true,false,false,false,false,false] rfl rfl (any_of HT_.out (by kernel_rfl)) (fun _ _ _ h => h) (Or.inr ⟨by rfl, rfl⟩) ?_ ?_
            rotate_left
            ·simp only [Act.put, List.setIfInBounds_toArray, List.set_cons_zero, List.set_cons_succ, i64_w, i32_w]
             rfl
            refine pure_ (i := 16) (N := some 64) (v := undef) (a' := ?_) #[true,true,true,true,true,true,true,true,true,true,true,true,true,true,true,true,true,false,false,false,false] rfl rfl (any_of HT_.out (by kernel_rfl)) (fun _ _ _ h => h) (Or.inr ⟨by rfl, rfl⟩) ?_ ?_
            rotate_left
            ·simp only [Act.put, List.setIfInBounds_toArray, List.set_cons_zero, List.set_cons_succ, i64_w, i32_w]
             rfl
            refine pure_ (i := 17) (N := some 65) (v := undef) (a' := ?_) #[true,true,true,true,true,true,true,true,true,true,true,true,true,true,true,true,true,true,false,false,false] rfl rfl (any_of HT_.out (by kernel_rfl)) (fun _ _ _ h => h) (Or.inr ⟨by rfl, rfl⟩) ?_ ?_
            rotate_left
            ·simp only [Act.put, List.setIfInBounds_toArray, List.set_cons_zero, List.set_cons_succ, i64_w, i32_w]
             rfl
            refine pure_ (i := 18) (N := some 66) (v := undef) (a' := ?_) #[true,true,true,true,true,true,true,true,true,true,true,true,true,true,true,true,true,true,true,false,false] rfl rfl (any_of HT_.out (by kernel_rfl)) (fun _ _ _ h => h) (Or.inr ⟨by rfl, rfl⟩) ?_ ?_
            rotate_left
            ·simp only [Act.put, List.setIfInBounds_toArray, List.set_cons_zero, List.set_cons_succ, i64_w, i32_w]
             rfl
            refine pure_ (i := 19) (N := some 67) (v := undef) (a' := ?_) #[true,true,true,true,true,true,true,true,true,true,true,true,true,true,true,true,true,true,true,true,false] rfl rfl (any_of HT_.out (by kernel_rfl)) (fun _ _ _ h => h) (Or.inr ⟨by rfl, rfl⟩) ?_ ?_
            rotate_left
            ·simp only [Act.put, List.setIfInBounds_toArray, List.set_cons_zero, List.set_cons_succ, i64_w, i32_w]
             rfl
            refine pure_ (i := 20) (N := some 68) (v := ?_) (a' := ?_) #[true,true,true,true,true,true,true,true,true,true,true,true,true,true,true,true,true,true,true,true,true] rfl rfl (any_of HT_.out (by kernel_rfl)) (fun _ _ _ h => h) (Or.inl ⟨by rfl, ?_⟩) ?_ ?_
            rotate_left
            ·intro w'
             go_simp
             with_reducible rfl
            rotate_left
            ·simp only [Act.put, List.setIfInBounds_toArray, List.set_cons_zero, List.set_cons_succ, i64_w, i32_w]
             rfl
            refine done_ (done_of HT_.out (by kernel_rfl)) ?_
            try go_wp2
            go_meet
            case rel => exact ⟨_, (true), (by first | rfl | (simp;done) | (simp [*];done)), H', ⟨by have := HK1.out;have := HJ45.out;first | omega | exact Nat.le_refl _⟩, ⟨by exact rP HO_13.out⟩, ⟨by exact rP HO_305000.out⟩, ⟨by exact kP BK299.out⟩, ⟨by exact kP BK300.out⟩, ⟨by exact kP BK304.out⟩, ⟨by exact kP BK305.out⟩, ⟨by exact bB⟩⟩
           ·rw [if_neg c61] at H
            have c61b0 : decide (a2 < ((rd_L2 l3 x14_1).length : Int)) = false := decide_eq_false c61
            clear c61
            (first | rw [c61b0] | (simp only [i64_w, i32_w];rw [c61b0]) | skip)
            replace H := Option.bind_eq_some_iff.mp H
            obtain ⟨t311, A630, H⟩ := H
            replace H : (if t311 = true then ((impl_maskOf.f kj45 (rd_L2 l3 x14_1)).bind fun t312 => (impl_firePlan.j2 kj45 a2 l3 x13_1 x14_1 (rd_L2 l3 x14_1) ((Go.bits .and .i64 t312 (Go.bits .or .i64 x306000_1 x306001_1)) != 0) a0_0 l0_1 t301 x306000_1 x306001_1)) else (impl_firePlan.j2 kj45 a2 l3 x13_1 x14_1 (rd_L2 l3 x14_1) true a0_0 l0_1 t301 x306000_1 x306001_1)) = some (r1, r2, r3, r4) := H
            have A63 := Aside0.mk A630
            clear A630
            by_cases c64 : t311 = true
            ·subst c64
             have H1 : ((impl_maskOf.f kj45 (rd_L2 l3 x14_1)).bind fun t312 => (impl_firePlan.j2 kj45 a2 l3 x13_1 x14_1 (rd_L2 l3 x14_1) ((Go.bits .and .i64 t312 (Go.bits .or .i64 x306000_1 x306001_1)) != 0) a0_0 l0_1 t301 x306000_1 x306001_1)) = some (r1, r2, r3, r4) := by rw [if_pos rfl] at H;exact H
             clear H
             have H := H1
             clear H1
             replace H := Option.bind_eq_some_iff.mp H
             obtain ⟨t312, A650, H⟩ := H
             replace H : (impl_firePlan.j2 kj45 a2 l3 x13_1 x14_1 (rd_L2 l3 x14_1) ((Go.bits .and .i64 t312 (Go.bits .or .i64 x306000_1 x306001_1)) != 0) a0_0 l0_1 t301 x306000_1 x306001_1) = some (r1, r2, r3, r4) := H
             have A65 := Aside0.mk A650
             clear A650
             have H' := Aside0.mk H
             clear H
             try go_wp2
             have n0_ := Aside0.mk (Kd.R_drew HO_13.out)
             have n1_ := Aside0.mk (Kd.R_drew HO_305000.out)
             have n2_ := Aside0.mk (blk_drew BK299.out)
             have n3_ := Aside0.mk (blk_drew BK300.out)
             have n4_ := Aside0.mk (blk_drew BK304.out)
             have n5_ := Aside0.mk (blk_drew BK305.out)
             have n6_ := Aside0.mk (below_drew1 HB.out)
             clear HO_13
             clear HO_305000
             clear BK299
             clear BK300
             clear BK304
             clear BK305
             clear HB
             have HO_13 := n0_
             have HO_305000 := n1_
             have BK299 := n2_
             have BK300 := n3_
             have BK304 := n4_
             have BK305 := n5_
             have HB := n6_
             clear n0_ n1_ n2_ n3_ n4_ n5_ n6_
             refine start_ (n := 21) (S := fun w' => w'.cell? ⟨gb299, 0, none⟩ = some (.int .i64 a0_0) ∧ w'.cell? ⟨gb299, 1, none⟩ = some (.slice A0_1 l0_1.length c0_1) ∧ w'.cell? ⟨gb305, 0, none⟩ = some (.int .i64 x306000_1) ∧ w'.cell? ⟨gb305, 1, none⟩ = some (.int .i64 x306001_1)) (ds := []) #[false,false,false,false,false,false,false,false,false,false,false,false,false,false,false,false,false,false,false,false,false] (by kernel_rfl) rfl rfl ⟨(blk_cell BK299.out 0).trans rfl, (blk_cell BK299.out 1).trans rfl, (blk_cell BK305.out 0).trans rfl, (blk_cell BK305.out 1).trans rfl⟩ (fun hHeld => ?_);refine with_tabW impl_firePlan.tab11 impl_firePlan.bits11 (fun HT_ HW_ => ?_)
             generalize wc.drew = w66 at HO_13 HO_305000 BK299 BK300 BK304 BK305 HB hHeld ⊢
             refine pure_ (i := 0) (N := some 48) (v := ?_) (a' := ?_) #[true,false,false,false,false,false,false,false,false,false,false,false,false,false,false,false,false,false,false,false,false] rfl rfl (any_of HT_.out (by kernel_rfl)) (fun _ _ _ h => h) (Or.inl ⟨by rfl, ?_⟩) ?_ ?_
             rotate_left
             ·intro w'
              go_simp
              with_reducible rfl
             rotate_left
             ·simp only [Act.put, List.setIfInBounds_toArray, List.set_cons_zero, List.set_cons_succ, i64_w, i32_w]
              rfl
             refine pure_ (i := 1) (N := some 49) (v := ?_) (a' := ?_) #[true,true,false,false,false,false,false,false,false,false,false,false,false,false,false,false,false,false,false,false,false] rfl rfl (any_of HT_.out (by kernel_rfl)) (fun _ _ _ h => h) (Or.inl ⟨by rfl, ?_⟩) ?_ ?_
             rotate_left
             ·intro w'
              go_simp
              with_reducible rfl
             rotate_left
             ·simp only [Act.put, List.setIfInBounds_toArray, List.set_cons_zero, List.set_cons_succ, i64_w, i32_w]
              rfl
             refine pure_ (i := 2) (N := some 50) (v := ?_) (a' := ?_) #[true,true,true,false,false,false,false,false,false,false,false,false,false,false,false,false,false,false,false,false,false] rfl rfl (any_of HT_.out (by kernel_rfl)) (fun _ _ _ h => h) (Or.inl ⟨by rfl, ?_⟩) ?_ ?_
             rotate_left
             ·intro w'
              go_simp
              with_reducible rfl
             rotate_left
             ·simp only [Act.put, List.setIfInBounds_toArray, List.set_cons_zero, List.set_cons_succ, i64_w, i32_w]
              rfl
             refine pure_ (i := 3) (N := some 51) (v := ?_) (a' := ?_) #[true,true,true,true,false,false,false,false,false,false,false,false,false,false,false,false,false,false,false,false,false] rfl rfl (any_of HT_.out (by kernel_rfl)) (fun _ _ _ h => h) (Or.inl ⟨by rfl, ?_⟩) ?_ ?_
             rotate_left
             ·intro w'
              go_simp
              with_reducible rfl
             rotate_left
             ·simp only [Act.put, List.setIfInBounds_toArray, List.set_cons_zero, List.set_cons_succ, i64_w, i32_w]
              rfl
             refine pure_ (i := 4) (N := some 52) (v := ?_) (a' := ?_) #[true,true,true,true,true,false,false,false,false,false,false,false,false,false,false,false,false,false,false,false,false] rfl rfl (any_of HT_.out (by kernel_rfl)) (fun _ _ _ h => h) (Or.inl ⟨by rfl, ?_⟩) ?_ ?_
             rotate_left
             ·intro w'
              go_simp
              with_reducible rfl
             rotate_left
             ·simp only [Act.put, List.setIfInBounds_toArray, List.set_cons_zero, List.set_cons_succ, i64_w, i32_w]
              rfl
             refine pure_ (i := 6) (N := some 54) (v := ?_) (a' := ?_) #[true,true,true,true,true,false,true,false,false,false,false,false,false,false,false,false,false,false,false,false,false] rfl rfl (any_of HT_.out (by kernel_rfl)) (fun _ _ _ h => h) (Or.inl ⟨by rfl, ?_⟩) ?_ ?_
             rotate_left
             ·intro w'
              go_simp
              with_reducible rfl
             rotate_left
             ·simp only [Act.put, List.setIfInBounds_toArray, List.set_cons_zero, List.set_cons_succ, i64_w, i32_w]
              rfl
             refine take_ (i := 5) (N := some 53) (v := ?_) (a' := ?_) #[true,true,true,true,true,true,true,false,false,false,false,false,false,false,false,false,false,false,false,false,false] rfl rfl (take_ofW HT_.out HW_.out (by kernel_rfl)) (fun _ _ _ h => h) (Or.inl ⟨by rfl, ?_⟩) hHeld ?_ ?_
             rotate_left
             ·rintro w' ⟨s0, s1, s2, s3⟩
              go_simp
              with_reducible rfl
             rotate_left
             ·simp only [Act.put, List.setIfInBounds_toArray, List.set_cons_zero, List.set_cons_succ, i64_w, i32_w]
              rfl
             refine one_ (i := 7) (N := some 55) #[true,true,true,true,true,true,true,true,false,false,false,false,false,false,false,false,false,false,false,false,false] rfl rfl (one_of HT_.out (by kernel_rfl)) (by decide) (fun K hK => ?_)
             refine goes_ Try.func86 (by kernel_rfl) rfl #[.agg #[.int .i64 a0_0, .slice A0_1 l0_1.length c0_1], .slice A310_0 (rd_L2 l3 x14_1).length c310_0] (by rfl) rfl rfl mM ?_
             with_reducible refine (impl_isSet.calls kj45 a0_0 _ _ l0_1 _ _ (rd_L2 l3 x14_1) true _ ?side1 ?side2 ?side3 ?side4 A63.out).mono ?_
             (case side1 => exact cP (Kd.C_below HR0_1.out HB.out))
             (case side2 => exact HC0_1.out)
             (case side3 => exact cP (Kd.C_below HR310_0.out HB.out))
             (case side4 => exact HC310_0.out)
             rintro e w67 ⟨rfl, hb⟩
             refine ⟨_, rfl, ?_⟩
             have n0_ := Aside0.mk (Kd.R_below (by exact rP HO_13.out) hb)
             have n1_ := Aside0.mk (Kd.R_below (by exact rP HO_305000.out) hb)
             have n2_ := Aside0.mk (blk_below (g := gb299) (o := .cells #[.int .i64 a0_0, .slice A0_1 l0_1.length c0_1] 31 (0, 0)) (by exact kP BK299.out) hb)
             have n3_ := Aside0.mk (blk_below (g := gb300) (o := .cells #[.int .i64 x301000_1, .int .i64 x301001_1] 75 (0, 0)) (by exact kP BK300.out) hb)
             have n4_ := Aside0.mk (blk_below (g := gb304) (o := .cells #[.slice Ao35 t301.length co35] 80 (0, 0)) (by exact kP BK304.out) hb)
             have n5_ := Aside0.mk (blk_below (g := gb305) (o := .cells #[.int .i64 x306000_1, .int .i64 x306001_1] 75 (0, 0)) (by exact kP BK305.out) hb)
             have n6_ := Aside0.mk (below_step (by exact bB) hb)
             clear HO_13
             clear HO_305000
             clear BK299
             clear BK300
             clear BK304
             clear BK305
             clear HB
             have HO_13 := n0_
             have HO_305000 := n1_
             have BK299 := n2_
             have BK300 := n3_
             have BK304 := n4_
             have BK305 := n5_
             have HB := n6_
             clear n0_ n1_ n2_ n3_ n4_ n5_ n6_
             (try clear hb)
             (try clear hb2)
             (try clear hk)
             (try clear hi)
             refine hK.out _ _ ⟨(blk_cell BK299.out 0).trans rfl, (blk_cell BK299.out 1).trans rfl, (blk_cell BK305.out 0).trans rfl, (blk_cell BK305.out 1).trans rfl⟩ (fun hHeld => ?_)
             clear hK K
             refine norm_ (a' := ?_) ?_ ?_
             rotate_left
             ·show Act.put _ (some 55) _ = _
              simp only [Act.put, List.setIfInBounds_toArray, List.set_cons_zero, List.set_cons_succ, i64_w, i32_w]
              rfl
             refine pure_ (i := 8) (N := some 56) (v := ?_) (a' := ?_) #[true,true,true,true,true,true,true,true,true,false,false,false,false,false,false,false,false,false,false,false,false] rfl rfl (any_of HT_.out (by kernel_rfl)) (fun _ _ _ h => h) (Or.inl ⟨by rfl, ?_⟩) ?_ ?_
             rotate_left
             ·intro w'
              go_simp
              with_reducible rfl
             rotate_left
             ·simp only [Act.put, List.setIfInBounds_toArray, List.set_cons_zero, List.set_cons_succ, i64_w, i32_w]
              rfl
             refine pure_ (i := 9) (N := some 57) (v := ?_) (a' := ?_) #[true,true,true,true,true,true,true,true,true,true,false,false,false,false,false,false,false,false,false,false,false] rfl rfl (any_of HT_.out (by kernel_rfl)) (fun _ _ _ h => h) (Or.inl ⟨by rfl, ?_⟩) ?_ ?_
             rotate_left
             ·intro w'
              go_simp
              with_reducible rfl
             rotate_left
             ·simp only [Act.put, List.setIfInBounds_toArray, List.set_cons_zero, List.set_cons_succ, i64_w, i32_w]
              rfl
             refine pure_ (i := 10) (N := some 58) (v := ?_) (a' := ?_) #[true,true,true,true,true,true,true,true,true,true,true,false,false,false,false,false,false,false,false,false,false] rfl rfl (any_of HT_.out (by kernel_rfl)) (fun _ _ _ h => h) (Or.inl ⟨by rfl, ?_⟩) ?_ ?_
             rotate_left
             ·intro w'
              go_simp
              with_reducible rfl
             rotate_left
             ·simp only [Act.put, List.setIfInBounds_toArray, List.set_cons_zero, List.set_cons_succ, i64_w, i32_w]
              rfl
             refine pure_ (i := 11) (N := some 59) (v := ?_) (a' := ?_) #[true,true,true,true,true,true,true,true,true,true,true,true,false,false,false,false,false,false,false,false,false] rfl rfl (any_of HT_.out (by kernel_rfl)) (fun _ _ _ h => h) (Or.inl ⟨by rfl, ?_⟩) ?_ ?_
             rotate_left
             ·intro w'
              go_simp
              with_reducible rfl
             rotate_left
             ·simp only [Act.put, List.setIfInBounds_toArray, List.set_cons_zero, List.set_cons_succ, i64_w, i32_w]
              rfl
             refine pure_ (i := 13) (N := some 61) (v := ?_) (a' := ?_) #[true,true,true,true,true,true,true,true,true,true,true,true,false,true,false,false,false,false,false,false,false] rfl rfl (any_of HT_.out (by kernel_rfl)) (fun _ _ _ h => h) (Or.inl ⟨by rfl, ?_⟩) ?_ ?_
             rotate_left
             ·intro w'
              go_simp
              with_reducible rfl
             rotate_left
             ·simp only [Act.put, List.setIfInBounds_toArray, List.set_cons_zero, List.set_cons_succ, i64_w, i32_w]
              rfl
             refine pure_ (i := 15) (N := some 63) (v := ?_) (a' := ?_) #[true,true,true,true,true,true,true,true,true,true,true,true,false,true,false,true,false,false,false,false,false] rfl rfl (any_of HT_.out (by kernel_rfl)) (fun _ _ _ h => h) (Or.inl ⟨by rfl, ?_⟩) ?_ ?_
             rotate_left
             ·intro w'
              go_simp
              with_reducible rfl
             rotate_left
             ·simp only [Act.put, List.setIfInBounds_toArray, List.set_cons_zero, List.set_cons_succ, i64_w, i32_w]
              rfl
             refine take_ (i := 14) (N := some 62) (v := ?_) (a' := ?_) #[true,true,true,true,true,true,true,true,true,true,true,true,false,true,true,true,false,false,false,false,false] rfl rfl (take_ofW HT_.out HW_.out (by kernel_rfl)) (fun _ _ _ h => h) (Or.inl ⟨by rfl, ?_⟩) hHeld ?_ ?_
             rotate_left
             ·rintro w' ⟨s0, s1, s2, s3⟩
              go_simp
              with_reducible rfl
             rotate_left
             ·simp only [Act.put, List.setIfInBounds_toArray, List.set_cons_zero, List.set_cons_succ, i64_w, i32_w]
              rfl
             refine take_ (i := 16) (N := some 64) (v := ?_) (a' := ?_) #[true,true,true,true,true,true,true,true,true,true,true,true,false,true,true,true,true,false,false,false,false] rfl rfl (take_ofW HT_.out HW_.out (by kernel_rfl)) (fun _ _ _ h => h) (Or.inl ⟨by rfl, ?_⟩) hHeld ?_ ?_
             rotate_left
             ·rintro w' ⟨s0, s1, s2, s3⟩
              go_simp
              with_reducible rfl
             rotate_left
             ·simp only [Act.put, List.setIfInBounds_toArray, List.set_cons_zero, List.set_cons_succ, i64_w, i32_w]
              rfl
             refine pure_ (i := 17) (N := some 65) (v := ?_) (a' := ?_) #[true,true,true,true,true,true,true,true,true,true,true,true,false,true,true,true,true,true,false,false,false] rfl rfl (any_of HT_.out (by kernel_rfl)) (fun _ _ _ h => h) (Or.inl ⟨by rfl, ?_⟩) ?_ ?_
             rotate_left
             ·intro w'
              go_simp
              with_reducible rfl
             rotate_left
             ·simp only [Act.put, List.setIfInBounds_toArray, List.set_cons_zero, List.set_cons_succ, i64_w, i32_w]
              rfl
             refine one_ (i := 12) (N := some 60) #[true,true,true,true,true,true,true,true,true,true,true,true,true,true,true,true,true,true,false,false,false] rfl rfl (one_of HT_.out (by kernel_rfl)) (by decide) (fun K hK => ?_)
             refine goes_ Try.func89 (by kernel_rfl) rfl #[.slice A310_0 (rd_L2 l3 x14_1).length c310_0] (by rfl) rfl rfl mM ?_
             with_reducible refine (impl_maskOf.calls kj45 _ _ (rd_L2 l3 x14_1) t312 _ ?side1 ?side2 A65.out).mono ?_
             (case side1 => exact cP (Kd.C_below HR310_0.out HB.out))
             (case side2 => exact HC310_0.out)
             rintro e w' ⟨rfl, ⟨nd, rfl⟩⟩
             refine ⟨_, rfl, ?_⟩
             refine hK.out _ _ ⟨(blk_cell BK299.out 0).trans rfl, (blk_cell BK299.out 1).trans rfl, (blk_cell BK305.out 0).trans rfl, (blk_cell BK305.out 1).trans rfl⟩ (fun hHeld => ?_)
             clear hK K
             refine norm_ (a' := ?_) ?_ ?_
             rotate_left
             ·show Act.put _ (some 60) _ = _
              simp only [Act.put, List.setIfInBounds_toArray, List.set_cons_zero, List.set_cons_succ, i64_w, i32_w]
              rfl
             refine pure_ (i := 18) (N := some 66) (v := ?_) (a' := ?_) #[true,true,true,true,true,true,true,true,true,true,true,true,true,true,true,true,true,true,true,false,false] rfl rfl (any_of HT_.out (by kernel_rfl)) (fun _ _ _ h => h) (Or.inl ⟨by rfl, ?_⟩) ?_ ?_
             rotate_left
             ·intro w'
              go_simp
              with_reducible rfl
             rotate_left
             ·simp only [Act.put, List.setIfInBounds_toArray, List.set_cons_zero, List.set_cons_succ, i64_w, i32_w]
              rfl
             refine pure_ (i := 19) (N := some 67) (v := ?_) (a' := ?_) #[true,true,true,true,true,true,true,true,true,true,true,true,true,true,true,true,true,true,true,true,false] rfl rfl (any_of HT_.out (by kernel_rfl)) (fun _ _ _ h => h) (Or.inl ⟨by rfl, ?_⟩) ?_ ?_
             rotate_left
             ·intro w'
              go_simp
              with_reducible rfl
             rotate_left
             ·simp only [Act.put, List.setIfInBounds_toArray, List.set_cons_zero, List.set_cons_succ, i64_w, i32_w]
              rfl
             refine pure_ (i := 20) (N := some 68) (v := ?_) (a' := ?_) #[true,true,true,true,true,true,true,true,true,true,true,true,true,true,true,true,true,true,true,true,true] rfl rfl (any_of HT_.out (by kernel_rfl)) (fun _ _ _ h => h) (Or.inl ⟨by rfl, ?_⟩) ?_ ?_
             rotate_left
             ·intro w'
              go_simp
              with_reducible rfl
             rotate_left
             ·simp only [Act.put, List.setIfInBounds_toArray, List.set_cons_zero, List.set_cons_succ, i64_w, i32_w]
              rfl
             refine done_ (done_of HT_.out (by kernel_rfl)) ?_
             try go_wp2
             go_meet
             case rel => exact ⟨_, (((Go.bits .and .i64 t312 (Go.bits .or .i64 x306000_1 x306001_1)) != 0)), (by first | rfl | (simp;done) | (simp [*];done)), H', ⟨by have := HK1.out;have := HJ45.out;first | omega | exact Nat.le_refl _⟩, ⟨by exact rP HO_13.out⟩, ⟨by exact rP HO_305000.out⟩, ⟨by exact kP BK299.out⟩, ⟨by exact kP BK300.out⟩, ⟨by exact kP BK304.out⟩, ⟨by exact kP BK305.out⟩, ⟨by exact bB⟩⟩
            ·replace c64 := Bool.eq_false_iff.mpr c64
             subst c64
             have H1 : (impl_firePlan.j2 kj45 a2 l3 x13_1 x14_1 (rd_L2 l3 x14_1) true a0_0 l0_1 t301 x306000_1 x306001_1) = some (r1, r2, r3, r4) := by rw [if_neg (show ¬ (false = true) by decide)] at H;exact H
             clear H
             have H := H1
             clear H1
             have H' := Aside0.mk H
             clear H
             try go_wp2
             have n0_ := Aside0.mk (Kd.R_drew HO_13.out)
             have n1_ := Aside0.mk (Kd.R_drew HO_305000.out)
             have n2_ := Aside0.mk (blk_drew BK299.out)
             have n3_ := Aside0.mk (blk_drew BK300.out)
             have n4_ := Aside0.mk (blk_drew BK304.out)
             have n5_ := Aside0.mk (blk_drew BK305.out)
             have n6_ := Aside0.mk (below_drew1 HB.out)
             clear HO_13
             clear HO_305000
             clear BK299
             clear BK300
             clear BK304
             clear BK305
             clear HB
             have HO_13 := n0_
             have HO_305000 := n1_
             have BK299 := n2_
             have BK300 := n3_
             have BK304 := n4_
             have BK305 := n5_
             have HB := n6_
             clear n0_ n1_ n2_ n3_ n4_ n5_ n6_
             refine start_ (n := 21) (S := fun w' => w'.cell? ⟨gb299, 0, none⟩ = some (.int .i64 a0_0) ∧ w'.cell? ⟨gb299, 1, none⟩ = some (.slice A0_1 l0_1.length c0_1)) (ds := []) #[false,false,false,false,false,false,false,false,false,false,false,false,false,false,false,false,false,false,false,false,false] (by kernel_rfl) rfl rfl ⟨(blk_cell BK299.out 0).trans rfl, (blk_cell BK299.out 1).trans rfl⟩ (fun hHeld => ?_);refine with_tabW impl_firePlan.tab11 impl_firePlan.bits11 (fun HT_ HW_ => ?_)
             generalize wc.drew = w68 at HO_13 HO_305000 BK299 BK300 BK304 BK305 HB hHeld ⊢
             refine pure_ (i := 0) (N := some 48) (v := ?_) (a' := ?_) #[true,false,false,false,false,false,false,false,false,false,false,false,false,false,false,false,false,false,false,false,false] rfl rfl (any_of HT_.out (by kernel_rfl)) (fun _ _ _ h => h) (Or.inl ⟨by rfl, ?_⟩) ?_ ?_
             rotate_left
             ·intro w'
              go_simp
              with_reducible rfl
             rotate_left
             ·simp only [Act.put, List.setIfInBounds_toArray, List.set_cons_zero, List.set_cons_succ, i64_w, i32_w]
              rfl
             refine pure_ (i := 1) (N := some 49) (v := ?_) (a' := ?_) #[true,true,false,false,false,false,false,false,false,false,false,false,false,false,false,false,false,false,false,false,false] rfl rfl (any_of HT_.out (by kernel_rfl)) (fun _ _ _ h => h) (Or.inl ⟨by rfl, ?_⟩) ?_ ?_
             rotate_left
             ·intro w'
              go_simp
              with_reducible rfl
             rotate_left
             ·simp only [Act.put, List.setIfInBounds_toArray, List.set_cons_zero, List.set_cons_succ, i64_w, i32_w]
              rfl
             refine pure_ (i := 2) (N := some 50) (v := ?_) (a' := ?_) #[true,true,true,false,false,false,false,false,false,false,false,false,false,false,false,false,false,false,false,false,false] rfl rfl (any_of HT_.out (by kernel_rfl)) (fun _ _ _ h => h) (Or.inl ⟨by rfl, ?_⟩) ?_ ?_
             rotate_left
             ·intro w'
              go_simp
              with_reducible rfl
             rotate_left
             ·simp only [Act.put, List.setIfInBounds_toArray, List.set_cons_zero, List.set_cons_succ, i64_w, i32_w]
              rfl
             refine pure_ (i := 3) (N := some 51) (v := ?_) (a' := ?_) #[true,true,true,true,false,false,false,false,false,false,false,false,false,false,false,false,false,false,false,false,false] rfl rfl (any_of HT_.out (by kernel_rfl)) (fun _ _ _ h => h) (Or.inl ⟨by rfl, ?_⟩) ?_ ?_
             rotate_left
             ·intro w'
              go_simp
              with_reducible rfl
             rotate_left
             ·simp only [Act.put, List.setIfInBounds_toArray, List.set_cons_zero, List.set_cons_succ, i64_w, i32_w]
              rfl
             refine pure_ (i := 4) (N := some 52) (v := ?_) (a' := ?_) #[true,true,true,true,true,false,false,false,false,false,false,false,false,false,false,false,false,false,false,false,false] rfl rfl (any_of HT_.out (by kernel_rfl)) (fun _ _ _ h => h) (Or.inl ⟨by rfl, ?_⟩) ?_ ?_
             rotate_left
             ·intro w'
              go_simp
              with_reducible rfl
             rotate_left
             ·simp only [Act.put, List.setIfInBounds_toArray, List.set_cons_zero, List.set_cons_succ, i64_w, i32_w]
              rfl
             refine pure_ (i := 6) (N := some 54) (v := ?_) (a' := ?_) #[true,true,true,true,true,false,true,false,false,false,false,false,false,false,false,false,false,false,false,false,false] rfl rfl (any_of HT_.out (by kernel_rfl)) (fun _ _ _ h => h) (Or.inl ⟨by rfl, ?_⟩) ?_ ?_
             rotate_left
             ·intro w'
              go_simp
              with_reducible rfl
             rotate_left
             ·simp only [Act.put, List.setIfInBounds_toArray, List.set_cons_zero, List.set_cons_succ, i64_w, i32_w]
              rfl
             refine take_ (i := 5) (N := some 53) (v := ?_) (a' := ?_) #[true,true,true,true,true,true,true,false,false,false,false,false,false,false,false,false,false,false,false,false,false] rfl rfl (take_ofW HT_.out HW_.out (by kernel_rfl)) (fun _ _ _ h => h) (Or.inl ⟨by rfl, ?_⟩) hHeld ?_ ?_
             rotate_left
             ·rintro w' ⟨s0, s1⟩
              go_simp
              with_reducible rfl
             rotate_left
             ·simp only [Act.put, List.setIfInBounds_toArray, List.set_cons_zero, List.set_cons_succ, i64_w, i32_w]
              rfl
             refine one_ (i := 7) (N := some 55) #[true,true,true,true,true,true,true,true,false,false,false,false,false,false,false,false,false,false,false,false,false] rfl rfl (one_of HT_.out (by kernel_rfl)) (by decide) (fun K hK => ?_)
             refine goes_ Try.func86 (by kernel_rfl) rfl #[.agg #[.int .i64 a0_0, .slice A0_1 l0_1.length c0_1], .slice A310_0 (rd_L2 l3 x14_1).length c310_0] (by rfl) rfl rfl mM ?_
             with_reducible refine (impl_isSet.calls kj45 a0_0 _ _ l0_1 _ _ (rd_L2 l3 x14_1) false _ ?side1 ?side2 ?side3 ?side4 A63.out).mono ?_
             (case side1 => exact cP (Kd.C_below HR0_1.out HB.out))
             (case side2 => exact HC0_1.out)
             (case side3 => exact cP (Kd.C_below HR310_0.out HB.out))
             (case side4 => exact HC310_0.out)
             rintro e w69 ⟨rfl, hb⟩
             refine ⟨_, rfl, ?_⟩
             have n0_ := Aside0.mk (Kd.R_below (by exact rP HO_13.out) hb)
             have n1_ := Aside0.mk (Kd.R_below (by exact rP HO_305000.out) hb)
             have n2_ := Aside0.mk (blk_below (g := gb299) (o := .cells #[.int .i64 a0_0, .slice A0_1 l0_1.length c0_1] 31 (0, 0)) (by exact kP BK299.out) hb)
             have n3_ := Aside0.mk (blk_below (g := gb300) (o := .cells #[.int .i64 x301000_1, .int .i64 x301001_1] 75 (0, 0)) (by exact kP BK300.out) hb)
             have n4_ := Aside0.mk (blk_below (g := gb304) (o := .cells #[.slice Ao35 t301.length co35] 80 (0, 0)) (by exact kP BK304.out) hb)
             have n5_ := Aside0.mk (blk_below (g := gb305) (o := .cells #[.int .i64 x306000_1, .int .i64 x306001_1] 75 (0, 0)) (by exact kP BK305.out) hb)
             have n6_ := Aside0.mk (below_step (by exact bB) hb)
             clear HO_13
             clear HO_305000
             clear BK299
             clear BK300
             clear BK304
             clear BK305
             clear HB
             have HO_13 := n0_
             have HO_305000 := n1_
             have BK299 := n2_
             have BK300 := n3_
             have BK304 := n4_
             have BK305 := n5_
             have HB := n6_
             clear n0_ n1_ n2_ n3_ n4_ n5_ n6_
             (try clear hb)
             (try clear hb2)
             (try clear hk)
             (try clear hi)
             refine hK.out _ _ ⟨(blk_cell BK299.out 0).trans rfl, (blk_cell BK299.out 1).trans rfl⟩ (fun hHeld => ?_)
             clear hK K
             refine norm_ (a' := ?_) ?_ ?_
             rotate_left
             ·show Act.put _ (some 55) _ = _
              simp only [Act.put, List.setIfInBounds_toArray, List.set_cons_zero, List.set_cons_succ, i64_w, i32_w]
              rfl
             refine pure_ (i := 8) (N := some 56) (v := ?_) (a' := ?_) #[true,true,true,true,true,true,true,true,true,false,false,false,false,false,false,false,false,false,false,false,false] rfl rfl (any_of HT_.out (by kernel_rfl)) (fun _ _ _ h => h) (Or.inl ⟨by rfl, ?_⟩) ?_ ?_
             rotate_left
             ·intro w'
              go_simp
              with_reducible rfl
             rotate_left
             ·simp only [Act.put, List.setIfInBounds_toArray, List.set_cons_zero, List.set_cons_succ, i64_w, i32_w]
              rfl
             refine pure_ (i := 9) (N := some 57) (v := ?_) (a' := ?_) #[true,true,true,true,true,true,true,true,true,true,false,false,false,false,false,false,false,false,false,false,false] rfl rfl (any_of HT_.out (by kernel_rfl)) (fun _ _ _ h => h) (Or.inl ⟨by rfl, ?_⟩) ?_ ?_
             rotate_left
             ·intro w'
              go_simp
              with_reducible rfl
             rotate_left
             ·simp only [Act.put, List.setIfInBounds_toArray, List.set_cons_zero, List.set_cons_succ, i64_w, i32_w]
              rfl
             refine pure_ (i := 10) (N := some 58) (v := ?_) (a' := ?_) #[true,true,true,true,true,true,true,true,true,true,true,false,false,false,false,false,false,false,false,false,false] rfl rfl (any_of HT_.out (by kernel_rfl)) (fun _ _ _ h => h) (Or.inl ⟨by rfl, ?_⟩) ?_ ?_
             rotate_left
             ·intro w'
              go_simp
              with_reducible rfl
             rotate_left
             ·simp only [Act.put, List.setIfInBounds_toArray, List.set_cons_zero, List.set_cons_succ, i64_w, i32_w]
              rfl
             refine pure_ (i := 11) (N := some 59) (v := undef) (a' := ?_) #[true,true,true,true,true,true,true,true,true,true,true,true,false,false,false,false,false,false,false,false,false] rfl rfl (any_of HT_.out (by kernel_rfl)) (fun _ _ _ h => h) (Or.inr ⟨by rfl, rfl⟩) ?_ ?_
             rotate_left
             ·simp only [Act.put, List.setIfInBounds_toArray, List.set_cons_zero, List.set_cons_succ, i64_w, i32_w]
              rfl
             refine pure_ (i := 12) (N := some 60) (v := undef) (a' := ?_) #[true,true,true,true,true,true,true,true,true,true,true,true,true,false,false,false,false,false,false,false,false] rfl rfl (any_of HT_.out (by kernel_rfl)) (fun _ _ _ h => h) (Or.inr ⟨by rfl, rfl⟩) ?_ ?_
             rotate_left
             ·simp only [Act.put, List.setIfInBounds_toArray, List.set_cons_zero, List.set_cons_succ, i64_w, i32_w]
              rfl
             refine pure_ (i := 13) (N := some 61) (v := undef) (a' := ?_) #[true,true,true,true,true,true,true,true,true,true,true,true,true,true,false,false,false,false,false,false,false] rfl rfl (any_of HT_.out (by kernel_rfl)) (fun _ _ _ h => h) (Or.inr ⟨by rfl, rfl⟩) ?_ ?_
             rotate_left
             ·simp only [Act.put, List.setIfInBounds_toArray, List.set_cons_zero, List.set_cons_succ, i64_w, i32_w]
              rfl
             refine pure_ (i := 14) (N := some 62) (v := undef) (a' := ?_) #[true,true,true,true,true,true,true,true,true,true,true,true,true,true,true,false,false,false,false,false,false] rfl rfl (any_of HT_.out (by kernel_rfl)) (fun _ _ _ h => h) (Or.inr ⟨by rfl, rfl⟩) ?_ ?_
             rotate_left
             ·simp only [Act.put, List.setIfInBounds_toArray, List.set_cons_zero, List.set_cons_succ, i64_w, i32_w]
              rfl
             refine pure_ (i := 15) (N := some 63) (v := undef) (a' := ?_) #[true,true,true,true,true,true,true,true,true,true,true,true,true,true,true,true,false,false,false,false,false] rfl rfl (any_of HT_.out (by kernel_rfl)) (fun _ _ _ h => h) (Or.inr ⟨by rfl, rfl⟩) ?_ ?_
             rotate_left
             ·simp only [Act.put, List.setIfInBounds_toArray, List.set_cons_zero, List.set_cons_succ, i64_w, i32_w]
              rfl
             refine pure_ (i := 16) (N := some 64) (v := undef) (a' := ?_) #[true,true,true,true,true,true,true,true,true,true,true,true,true,true,true,true,true,false,false,false,false] rfl rfl (any_of HT_.out (by kernel_rfl)) (fun _ _ _ h => h) (Or.inr ⟨by rfl, rfl⟩) ?_ ?_
             rotate_left
             ·simp only [Act.put, List.setIfInBounds_toArray, List.set_cons_zero, List.set_cons_succ, i64_w, i32_w]
              rfl
             refine pure_ (i := 17) (N := some 65) (v := undef) (a' := ?_) #[true,true,true,true,true,true,true,true,true,true,true,true,true,true,true,true,true,true,false,false,false] rfl rfl (any_of HT_.out (by kernel_rfl)) (fun _ _ _ h => h) (Or.inr ⟨by rfl, rfl⟩) ?_ ?_
             rotate_left
             ·simp only [Act.put, List.setIfInBounds_toArray, List.set_cons_zero, List.set_cons_succ, i64_w, i32_w]
              rfl
             refine pure_ (i := 18) (N := some 66) (v := undef) (a' := ?_) #[true,true,true,true,true,true,true,true,true,true,true,true,true,true,true,true,true,true,true,false,false] rfl rfl (any_of HT_.out (by kernel_rfl)) (fun _ _ _ h => h) (Or.inr ⟨by rfl, rfl⟩) ?_ ?_
             rotate_left
             ·simp only [Act.put, List.setIfInBounds_toArray, List.set_cons_zero, List.set_cons_succ, i64_w, i32_w]
              rfl
             refine pure_ (i := 19) (N := some 67) (v := undef) (a' := ?_) #[true,true,true,true,true,true,true,true,true,true,true,true,true,true,true,true,true,true,true,true,false] rfl rfl (any_of HT_.out (by kernel_rfl)) (fun _ _ _ h => h) (Or.inr ⟨by rfl, rfl⟩) ?_ ?_
             rotate_left
             ·simp only [Act.put, List.setIfInBounds_toArray, List.set_cons_zero, List.set_cons_succ, i64_w, i32_w]
              rfl
             refine pure_ (i := 20) (N := some 68) (v := ?_) (a' := ?_) #[true,true,true,true,true,true,true,true,true,true,true,true,true,true,true,true,true,true,true,true,true] rfl rfl (any_of HT_.out (by kernel_rfl)) (fun _ _ _ h => h) (Or.inl ⟨by rfl, ?_⟩) ?_ ?_
             rotate_left
             ·intro w'
              go_simp
              with_reducible rfl
             rotate_left
             ·simp only [Act.put, List.setIfInBounds_toArray, List.set_cons_zero, List.set_cons_succ, i64_w, i32_w]
              rfl
             refine done_ (done_of HT_.out (by kernel_rfl)) ?_
             try go_wp2
             go_meet
             case rel => exact ⟨_, (true), (by first | rfl | (simp;done) | (simp [*];done)), H', ⟨by have := HK1.out;have := HJ45.out;first | omega | exact Nat.le_refl _⟩, ⟨by exact rP HO_13.out⟩, ⟨by exact rP HO_305000.out⟩, ⟨by exact kP BK299.out⟩, ⟨by exact kP BK300.out⟩, ⟨by exact kP BK304.out⟩, ⟨by exact kP BK305.out⟩, ⟨by exact bB⟩⟩
          case rest =>
           clear HC60
           try clear p2
           try clear c3
           try clear c6
           try clear c8
           try clear c31
           try clear c61
           try clear c61b0
           try clear c64
           obtain ⟨kq, x68_59, rfl, HA, HJ59, HO_13, HO_305000, BK299, BK300, BK304, BK305, HB⟩ := hcut
           cases kq with
           | zero => exact absurd HA.out (by simp [impl_firePlan.j2])
           | succ kj59 =>
            have H := HA.out
            clear HA
            simp only [impl_firePlan.j2] at H
            by_cases c70 : x68_59 = true
            ·subst c70
             have H1 : (some (([] : List Int), x306000_1, x306001_1, false)) = some (r1, r2, r3, r4) := by rw [if_pos rfl] at H;exact H
             clear H
             have H := H1
             clear H1
             simp only [Option.some.injEq, Prod.mk.injEq] at H
             obtain ⟨rfl, rfl, rfl, rfl⟩ := H
             try go_wp2
             have n0_ := Aside0.mk (Kd.R_drew HO_13.out)
             have n1_ := Aside0.mk (Kd.R_drew HO_305000.out)
             have n2_ := Aside0.mk (blk_drew BK299.out)
             have n3_ := Aside0.mk (blk_drew BK300.out)
             have n4_ := Aside0.mk (blk_drew BK304.out)
             have n5_ := Aside0.mk (blk_drew BK305.out)
             have n6_ := Aside0.mk (below_drew1 HB.out)
             clear HO_13
             clear HO_305000
             clear BK299
             clear BK300
             clear BK304
             clear BK305
             clear HB
             have HO_13 := n0_
             have HO_305000 := n1_
             have BK299 := n2_
             have BK300 := n3_
             have BK304 := n4_
             have BK305 := n5_
             have HB := n6_
             clear n0_ n1_ n2_ n3_ n4_ n5_ n6_
             refine start_ (n := 4) (S := fun w' => w'.cell? ⟨gb305, 0, none⟩ = some (.int .i64 x306000_1) ∧ w'.cell? ⟨gb305, 1, none⟩ = some (.int .i64 x306001_1)) (ds := []) #[false,false,false,false] (by kernel_rfl) rfl rfl ⟨(blk_cell BK305.out 0).trans rfl, (blk_cell BK305.out 1).trans rfl⟩ (fun hHeld => ?_)
             generalize wc.drew = w71 at HO_13 HO_305000 BK299 BK300 BK304 BK305 HB hHeld ⊢
             refine pure_ (i := 1) (N := some 8) (v := ?_) (a' := ?_) #[false,true,false,false] rfl rfl (by kernel_rfl) (fun _ _ _ h => h) (Or.inl ⟨by rfl, ?_⟩) ?_ ?_
             rotate_left
             ·intro w'
              go_simp
              with_reducible rfl
             rotate_left
             ·simp only [Act.put, List.setIfInBounds_toArray, List.set_cons_zero, List.set_cons_succ, i64_w, i32_w]
              rfl
             refine take_ (i := 0) (N := some 69) (v := ?_) (a' := ?_) #[true,true,false,false] rfl rfl (by kernel_rfl) (fun _ _ _ h => h) (Or.inl ⟨by rfl, ?_⟩) hHeld ?_ ?_
             rotate_left
             ·rintro w' ⟨s0, s1⟩
              go_simp
              with_reducible rfl
             rotate_left
             ·simp only [Act.put, List.setIfInBounds_toArray, List.set_cons_zero, List.set_cons_succ, i64_w, i32_w]
              rfl
             refine one_ (i := 2) (N := none) #[true,true,true,false] rfl rfl (by kernel_rfl) (by decide) (fun K hK => ?_)
             have hs72 : w71.cell? ⟨gb300, 0, none⟩ = some (.int .i64 x301000_1) := (blk_cell BK300.out 0).trans rfl
             have hfs72 := blk_frozen BK300.out 0
             have hns72_0 := NB299_300.out
             have hns72_2 := NB304_300.out
             have hns72_3 := NB305_300.out
             have hms72_0 := NB300_299.out
             have hms72_2 := NB300_304.out
             have hms72_3 := NB300_305.out
             have hs73 : w71.cell? ⟨gb300, 1, none⟩ = some (.int .i64 x301001_1) := (blk_cell BK300.out 1).trans rfl
             have hfs73 := blk_frozen BK300.out 1
             have hns73_0 := NB299_300.out
             have hns73_2 := NB304_300.out
             have hns73_3 := NB305_300.out
             have hms73_0 := NB300_299.out
             have hms73_2 := NB300_304.out
             have hms73_3 := NB300_305.out
             refine skip_ (w1 := ?_) (by rfl) rfl ?_ ?_
             rotate_left
             ·go_simp
              rfl
             refine hK.out _ _ ⟨((cell_far (p := ⟨gb300, _, none⟩) NB305_300.out _).trans (((cell_far (p := ⟨gb300, _, none⟩) NB305_300.out _).trans (hHeld.1)))), ((cell_far (p := ⟨gb300, _, none⟩) NB305_300.out _).trans (((cell_far (p := ⟨gb300, _, none⟩) NB305_300.out _).trans (hHeld.2))))⟩ (fun hHeld => ?_)
             clear hK K
             refine pure_ (i := 3) (N := some 10) (v := ?_) (a' := ?_) #[true,true,true,true] rfl rfl (by kernel_rfl) (fun _ _ _ h => h) (Or.inl ⟨by rfl, ?_⟩) ?_ ?_
             rotate_left
             ·intro w'
              go_simp
              with_reducible rfl
             rotate_left
             ·simp only [Act.put, List.setIfInBounds_toArray, List.set_cons_zero, List.set_cons_succ, i64_w, i32_w]
              rfl
             refine done_ (by kernel_rfl) ?_
             try go_wp2
             refine bodyPost_ret (results_list (rs := [.tmp 8, .cell 9 75, .tmp 10]) rfl (by simp) (.tmp (.cell gb300 75 #[.int .i64 x306000_1, .int .i64 x306001_1] (0, 0) _ rfl (by refine kP ?_;refine blk_put (cs := #[.int .i64 x306000_1, .int .i64 x301001_1]) ?_ 1 _ rfl;refine kP ?_;refine blk_put (cs := #[.int .i64 x301000_1, .int .i64 x301001_1]) ?_ 0 _ rfl;exact kP BK300.out) Try.underlying75 rfl (by kernel_rfl) (.tmp .nil)))) rfl ?_
             exact ⟨_, by first | rfl | (simp [errW_none, errW_some] <;> rfl) | (simp only [← hji7];first | rfl | (simp [errW_none, errW_some] <;> rfl)) | (simp [*, errW_none, errW_some] <;> rfl), by first | exact Kd.R_nil _ _ _ _ _ | exact Kd.N_nil _ _ _ _ _ | exact Kd.V_nil _ _ _ _ _ | exact Kd.Q_nil _ _ _ _ _ | exact Kd.S_nil _ _ _ _ _, by exact bB⟩
            ·replace c70 := Bool.eq_false_iff.mpr c70
             subst c70
             have H1 : ((impl_maskOf.f kj59 (rd_L2 l3 x14_1)).bind fun t313 => ((impl_net_threatened.f kj59 t301 x306000_1 (Go.bits .or .i64 x306001_1 t313)).bind fun t314 => (if x13_1.length < 17592186044416 then (impl_firePlan.l0 kj59 a2 l3 (x13_1 ++ [Go.bits .or .i64 x306000_1 t314]) (wrap64 (x14_1 + 1)) a0_0 l0_1 t301 (Go.bits .or .i64 x306000_1 t314) (Go.bits .or .i64 x306001_1 t313)) else (none)))) = some (r1, r2, r3, r4) := by rw [if_neg (show ¬ (false = true) by decide)] at H;exact H
             clear H
             have H := H1
             clear H1
             replace H := Option.bind_eq_some_iff.mp H
             obtain ⟨t313, A740, H⟩ := H
             replace H : ((impl_net_threatened.f kj59 t301 x306000_1 (Go.bits .or .i64 x306001_1 t313)).bind fun t314 => (if x13_1.length < 17592186044416 then (impl_firePlan.l0 kj59 a2 l3 (x13_1 ++ [Go.bits .or .i64 x306000_1 t314]) (wrap64 (x14_1 + 1)) a0_0 l0_1 t301 (Go.bits .or .i64 x306000_1 t314) (Go.bits .or .i64 x306001_1 t313)) else (none))) = some (r1, r2, r3, r4) := H
             have A74 := Aside0.mk A740
             clear A740
             replace H := Option.bind_eq_some_iff.mp H
             obtain ⟨t314, A750, H⟩ := H
             replace H : (if x13_1.length < 17592186044416 then (impl_firePlan.l0 kj59 a2 l3 (x13_1 ++ [Go.bits .or .i64 x306000_1 t314]) (wrap64 (x14_1 + 1)) a0_0 l0_1 t301 (Go.bits .or .i64 x306000_1 t314) (Go.bits .or .i64 x306001_1 t313)) else (none)) = some (r1, r2, r3, r4) := H
             have A75 := Aside0.mk A750
             clear A750
             by_cases c76 : x13_1.length < 17592186044416
             ·rw [if_pos c76] at H
              have LMc76 := Aside0.mk c76
              clear c76
              obtain ⟨y315, hy315⟩ : ∃ y_ : List Int, y_ = (x13_1 ++ [Go.bits .or .i64 x306000_1 t314]) := ⟨_, rfl⟩
              replace H : (impl_firePlan.l0 kj59 a2 l3 y315 (wrap64 (x14_1 + 1)) a0_0 l0_1 t301 (Go.bits .or .i64 x306000_1 t314) (Go.bits .or .i64 x306001_1 t313)) = some (r1, r2, r3, r4) := by first | (rw [hy315];with_reducible exact H) | (have H2_ := (Option.bind_some _ _).symm.trans H;rw [hy315];with_reducible exact H2_) | (have H2_ := (Option.bind_some _ _).symm.trans H;with_reducible exact H2_) | with_reducible exact H | (rw [hy315];exact H) | exact H
              have Ny315 := Aside0.mk hy315
              clear hy315
              have H' := Aside0.mk H
              clear H
              try go_wp2
              have n0_ := Aside0.mk (Kd.R_drew HO_13.out)
              have n1_ := Aside0.mk (Kd.R_drew HO_305000.out)
              have n2_ := Aside0.mk (blk_drew BK299.out)
              have n3_ := Aside0.mk (blk_drew BK300.out)
              have n4_ := Aside0.mk (blk_drew BK304.out)
              have n5_ := Aside0.mk (blk_drew BK305.out)
              have n6_ := Aside0.mk (below_drew1 HB.out)
              clear HO_13
              clear HO_305000
              clear BK299
              clear BK300
              clear BK304
              clear BK305
              clear HB
              have HO_13 := n0_
              have HO_305000 := n1_
              have BK299 := n2_
              have BK300 := n3_
              have BK304 := n4_
              have BK305 := n5_
              have HB := n6_
              clear n0_ n1_ n2_ n3_ n4_ n5_ n6_
              refine start_ (n := 7) (S := fun w' => w'.cell? ⟨gb305, 0, none⟩ = some (.int .i64 x306000_1) ∧ w'.cell? ⟨gb305, 1, none⟩ = some (.int .i64 x306001_1)) (ds := [6]) #[false,false,false,false,false,false,false] (by kernel_rfl) rfl rfl ⟨(blk_cell BK305.out 0).trans rfl, (blk_cell BK305.out 1).trans rfl⟩ (fun hHeld => ?_)
              generalize wc.drew = w77 at HO_13 HO_305000 BK299 BK300 BK304 BK305 HB hHeld ⊢
              refine pure_ (i := 0) (N := some 70) (v := ?_) (a' := ?_) #[true,false,false,false,false,false,false] rfl rfl (by kernel_rfl) (fun _ _ _ h => h) (Or.inl ⟨by rfl, ?_⟩) ?_ ?_
              rotate_left
              ·intro w'
               go_simp
               with_reducible rfl
              rotate_left
              ·simp only [Act.put, List.setIfInBounds_toArray, List.set_cons_zero, List.set_cons_succ, i64_w, i32_w]
               rfl
              refine pure_ (i := 2) (N := some 72) (v := ?_) (a' := ?_) #[true,false,true,false,false,false,false] rfl rfl (by kernel_rfl) (fun _ _ _ h => h) (Or.inl ⟨by rfl, ?_⟩) ?_ ?_
              rotate_left
              ·intro w'
               go_simp
               with_reducible rfl
              rotate_left
              ·simp only [Act.put, List.setIfInBounds_toArray, List.set_cons_zero, List.set_cons_succ, i64_w, i32_w]
               rfl
              refine take_ (i := 1) (N := some 71) (v := ?_) (a' := ?_) #[true,true,true,false,false,false,false] rfl rfl (by kernel_rfl) (fun _ _ _ h => h) (Or.inl ⟨by rfl, ?_⟩) hHeld ?_ ?_
              rotate_left
              ·rintro w' ⟨s0, s1⟩
               go_simp
               with_reducible rfl
              rotate_left
              ·simp only [Act.put, List.setIfInBounds_toArray, List.set_cons_zero, List.set_cons_succ, i64_w, i32_w]
               rfl
              refine one_ (i := 3) (N := some 73) #[true,true,true,true,false,false,false] rfl rfl (by kernel_rfl) (by decide) (fun K hK => ?_)
              refine goes_ Try.func89 (by kernel_rfl) rfl #[.slice A310_0 (rd_L2 l3 x14_1).length c310_0] (by rfl) rfl rfl mM ?_
              with_reducible refine (impl_maskOf.calls kj59 _ _ (rd_L2 l3 x14_1) t313 _ ?side1 ?side2 A74.out).mono ?_
              (case side1 => exact cP (Kd.C_below HR310_0.out HB.out))
              (case side2 => exact HC310_0.out)
              rintro e w' ⟨rfl, ⟨nd, rfl⟩⟩
              refine ⟨_, rfl, ?_⟩
              refine hK.out _ _ ⟨(blk_cell BK305.out 0).trans rfl, (blk_cell BK305.out 1).trans rfl⟩ (fun hHeld => ?_)
              clear hK K
              replace HO_13 := Aside0.mk (by first | exact Kd.R_drewN HO_13.out nd | exact Kd.S_drewN HO_13.out nd)
              replace HO_305000 := Aside0.mk (by first | exact Kd.R_drewN HO_305000.out nd | exact Kd.S_drewN HO_305000.out nd)
              replace BK299 := Aside0.mk (blk_drewN BK299.out nd)
              replace BK300 := Aside0.mk (blk_drewN BK300.out nd)
              replace BK304 := Aside0.mk (blk_drewN BK304.out nd)
              replace BK305 := Aside0.mk (blk_drewN BK305.out nd)
              replace HB := Aside0.mk (pw_below_drewN HB.out nd)
              generalize World.drewN w77 nd = w77 at HO_13 HO_305000 BK299 BK300 BK304 BK305 HB hHeld ⊢
              refine norm_ (a' := ?_) ?_ ?_
              rotate_left
              ·show Act.put _ (some 73) _ = _
               simp only [Act.put, List.setIfInBounds_toArray, List.set_cons_zero, List.set_cons_succ, i64_w, i32_w]
               rfl
              refine pure_ (i := 4) (N := some 74) (v := ?_) (a' := ?_) #[true,true,true,true,true,false,false] rfl rfl (by kernel_rfl) (fun _ _ _ h => h) (Or.inl ⟨by rfl, ?_⟩) ?_ ?_
              rotate_left
              ·intro w'
               go_simp
               with_reducible rfl
              rotate_left
              ·simp only [Act.put, List.setIfInBounds_toArray, List.set_cons_zero, List.set_cons_succ, i64_w, i32_w]
               rfl
              refine pure_ (i := 5) (N := some 75) (v := ?_) (a' := ?_) #[true,true,true,true,true,true,false] rfl rfl (by kernel_rfl) (fun _ _ _ h => h) (Or.inl ⟨by rfl, ?_⟩) ?_ ?_
              rotate_left
              ·intro w'
               go_simp
               with_reducible rfl
              rotate_left
              ·simp only [Act.put, List.setIfInBounds_toArray, List.set_cons_zero, List.set_cons_succ, i64_w, i32_w]
               rfl
              refine last_ (i := 6) (N := none) #[true,true,true,true,true,true,true] rfl rfl (by kernel_rfl) (by decide) (fun K hK => ?_)
              have hs78 : w77.cell? ⟨gb305, 1, none⟩ = some (.int .i64 x306001_1) := (blk_cell BK305.out 1).trans rfl
              have hfs78 := blk_frozen BK305.out 1
              have hns78_0 := NB299_305.out
              have hns78_1 := NB300_305.out
              have hns78_2 := NB304_305.out
              have hms78_0 := NB305_299.out
              have hms78_1 := NB305_300.out
              have hms78_2 := NB305_304.out
              refine skip_ (w1 := ?_) (by rfl) rfl ?_ ?_
              rotate_left
              ·go_simp
               rfl
              refine hK.out _ _ ?_
              clear hK K
              refine done_ (by kernel_rfl) ?_
              try go_wp2
              have n0_ : Aside0 (Kd.R (Kd.int .i64) 3 (w77.setCell ⟨gb305, 1, none⟩ (.int .i64 (Go.bits .or .i64 x306001_1 t313))) w.heap.size (fun k_ => some k_ ≠ (.slice Ao35 t301.length co35 : Value).ownBlock) u13 x13_1) := ⟨by refine rP ?_;exact Kd.R_mono (Kd.R_far (p := ⟨gb305, 1, none⟩) (Kd.R_types HO_13.out BK305.out (by decide)) (fun _ hk => hk.2) (.int .i64 (Go.bits .or .i64 x306001_1 t313))) (fun _ hk => hk.1)⟩
              have n1_ : Aside0 (Kd.R (Kd.int .i64) 3 (w77.setCell ⟨gb305, 1, none⟩ (.int .i64 (Go.bits .or .i64 x306001_1 t313))) w.heap.size (fun k_ => some k_ ≠ (u13 : Value).ownBlock) (.slice Ao35 t301.length co35) t301) := ⟨by refine rP ?_;exact Kd.R_mono (Kd.R_far (p := ⟨gb305, 1, none⟩) (Kd.R_types HO_305000.out BK305.out (by decide)) (fun _ hk => hk.2) (.int .i64 (Go.bits .or .i64 x306001_1 t313))) (fun _ hk => hk.1)⟩
              have n2_ : Aside0 ((w77.setCell ⟨gb305, 1, none⟩ (.int .i64 (Go.bits .or .i64 x306001_1 t313))).heap[gb299]? = some (.cells #[.int .i64 a0_0, .slice A0_1 l0_1.length c0_1] 31 (0, 0))) := ⟨by refine kP ?_;refine blk_far ?_ NB299_305.out _;exact kP BK299.out⟩
              have n3_ : Aside0 ((w77.setCell ⟨gb305, 1, none⟩ (.int .i64 (Go.bits .or .i64 x306001_1 t313))).heap[gb300]? = some (.cells #[.int .i64 x301000_1, .int .i64 x301001_1] 75 (0, 0))) := ⟨by refine kP ?_;refine blk_far ?_ NB300_305.out _;exact kP BK300.out⟩
              have n4_ : Aside0 ((w77.setCell ⟨gb305, 1, none⟩ (.int .i64 (Go.bits .or .i64 x306001_1 t313))).heap[gb304]? = some (.cells #[.slice Ao35 t301.length co35] 80 (0, 0))) := ⟨by refine kP ?_;refine blk_far ?_ NB304_305.out _;exact kP BK304.out⟩
              have n5_ : Aside0 ((w77.setCell ⟨gb305, 1, none⟩ (.int .i64 (Go.bits .or .i64 x306001_1 t313))).heap[gb305]? = some (.cells #[.int .i64 x306000_1, .int .i64 (Go.bits .or .i64 x306001_1 t313)] 75 (0, 0))) := ⟨by refine kP ?_;refine blk_put (cs := #[.int .i64 x306000_1, .int .i64 x306001_1]) ?_ 1 _ rfl;exact kP BK305.out⟩
              have n6_ : Aside0 (Below w.heap.size w (w77.setCell ⟨gb305, 1, none⟩ (.int .i64 (Go.bits .or .i64 x306001_1 t313)))) := ⟨by exact bB⟩
              (try clear HO_13)
              (try clear HO_305000)
              (try clear BK299)
              (try clear BK300)
              (try clear BK304)
              (try clear BK305)
              (try clear HB)
              generalize (w77.setCell ⟨gb305, 1, none⟩ (.int .i64 (Go.bits .or .i64 x306001_1 t313))) = w79 at n0_ n1_ n2_ n3_ n4_ n5_ n6_ ⊢
              have HO_13 := n0_
              have HO_305000 := n1_
              have BK299 := n2_
              have BK300 := n3_
              have BK304 := n4_
              have BK305 := n5_
              have HB := n6_
              clear n0_ n1_ n2_ n3_ n4_ n5_ n6_
              (try (rw [drewN_self w79];generalize hq_ : World.drewN w79 _ = w79;have n0_ : Aside0 (Kd.R (Kd.int .i64) 3 w79 w.heap.size (fun k_ => some k_ ≠ (.slice Ao35 t301.length co35 : Value).ownBlock) u13 x13_1) := ⟨by rw [← hq_];exact (by exact rP HO_13.out)⟩;have n1_ : Aside0 (Kd.R (Kd.int .i64) 3 w79 w.heap.size (fun k_ => some k_ ≠ (u13 : Value).ownBlock) (.slice Ao35 t301.length co35) t301) := ⟨by rw [← hq_];exact (by exact rP HO_305000.out)⟩;have n2_ : Aside0 (w79.heap[gb299]? = some (.cells #[.int .i64 a0_0, .slice A0_1 l0_1.length c0_1] 31 (0, 0))) := ⟨by rw [← hq_];exact (by exact kP BK299.out)⟩;have n3_ : Aside0 (w79.heap[gb300]? = some (.cells #[.int .i64 x301000_1, .int .i64 x301001_1] 75 (0, 0))) := ⟨by rw [← hq_];exact (by exact kP BK300.out)⟩;have n4_ : Aside0 (w79.heap[gb304]? = some (.cells #[.slice Ao35 t301.length co35] 80 (0, 0))) := ⟨by rw [← hq_];exact (by exact kP BK304.out)⟩;have n5_ : Aside0 (w79.heap[gb305]? = some (.cells #[.int .i64 x306000_1, .int .i64 (Go.bits .or .i64 x306001_1 t313)] 75 (0, 0))) := ⟨by rw [← hq_];exact (by exact kP BK305.out)⟩;have n6_ : Aside0 (Below w.heap.size w w79) := ⟨by rw [← hq_];exact (by exact bB)⟩;clear HO_13 HO_305000 BK299 BK300 BK304 BK305 HB hq_;have HO_13 := n0_;have HO_305000 := n1_;have BK299 := n2_;have BK300 := n3_;have BK304 := n4_;have BK305 := n5_;have HB := n6_;clear n0_ n1_ n2_ n3_ n4_ n5_ n6_))
              have n0_ := Aside0.mk (Kd.R_drew HO_13.out)
              have n1_ := Aside0.mk (Kd.R_drew HO_305000.out)
              have n2_ := Aside0.mk (blk_drew BK299.out)
              have n3_ := Aside0.mk (blk_drew BK300.out)
              have n4_ := Aside0.mk (blk_drew BK304.out)
              have n5_ := Aside0.mk (blk_drew BK305.out)
              have n6_ := Aside0.mk (below_drew1 HB.out)
              clear HO_13
              clear HO_305000
              clear BK299
              clear BK300
              clear BK304
              clear BK305
              clear HB
              have HO_13 := n0_
              have HO_305000 := n1_
              have BK299 := n2_
              have BK300 := n3_
              have BK304 := n4_
              have BK305 := n5_
              have HB := n6_
              clear n0_ n1_ n2_ n3_ n4_ n5_ n6_
              refine start_ (n := 8) (S := fun w' => w'.cell? ⟨gb305, 0, none⟩ = some (.int .i64 x306000_1) ∧ w'.cell? ⟨gb305, 1, none⟩ = some (.int .i64 (Go.bits .or .i64 x306001_1 t313)) ∧ w'.cell? ⟨gb304, 0, none⟩ = some (.slice Ao35 t301.length co35)) (ds := [7]) #[false,false,false,false,false,false,false,false] (by kernel_rfl) rfl rfl ⟨(blk_cell BK305.out 0).trans rfl, (blk_cell BK305.out 1).trans rfl, (blk_cell BK304.out 0).trans rfl⟩ (fun hHeld => ?_);refine with_tabW impl_firePlan.tab14 impl_firePlan.bits14 (fun HT_ HW_ => ?_)
              generalize w79.drew = w80 at HO_13 HO_305000 BK299 BK300 BK304 BK305 HB hHeld ⊢
              refine pure_ (i := 0) (N := some 76) (v := ?_) (a' := ?_) #[true,false,false,false,false,false,false,false] rfl rfl (any_of HT_.out (by kernel_rfl)) (fun _ _ _ h => h) (Or.inl ⟨by rfl, ?_⟩) ?_ ?_
              rotate_left
              ·intro w'
               go_simp
               with_reducible rfl
              rotate_left
              ·simp only [Act.put, List.setIfInBounds_toArray, List.set_cons_zero, List.set_cons_succ, i64_w, i32_w]
               rfl
              refine take_ (i := 1) (N := some 77) (v := ?_) (a' := ?_) #[true,true,false,false,false,false,false,false] rfl rfl (take_ofW HT_.out HW_.out (by kernel_rfl)) (fun _ _ _ h => h) (Or.inl ⟨by rfl, ?_⟩) hHeld ?_ ?_
              rotate_left
              ·rintro w' ⟨s0, s1, s2⟩
               go_simp
               with_reducible rfl
              rotate_left
              ·simp only [Act.put, List.setIfInBounds_toArray, List.set_cons_zero, List.set_cons_succ, i64_w, i32_w]
               rfl
              refine take_ (i := 2) (N := some 78) (v := ?_) (a' := ?_) #[true,true,true,false,false,false,false,false] rfl rfl (take_ofW HT_.out HW_.out (by kernel_rfl)) (fun _ _ _ h => h) (Or.inl ⟨by rfl, ?_⟩) hHeld ?_ ?_
              rotate_left
              ·rintro w' ⟨s0, s1, s2⟩
               go_simp
               with_reducible rfl
              rotate_left
              ·simp only [Act.put, List.setIfInBounds_toArray, List.set_cons_zero, List.set_cons_succ, i64_w, i32_w]
               rfl
              refine take_ (i := 3) (N := some 79) (v := ?_) (a' := ?_) #[true,true,true,true,false,false,false,false] rfl rfl (take_ofW HT_.out HW_.out (by kernel_rfl)) (fun _ _ _ h => h) (Or.inl ⟨by rfl, ?_⟩) hHeld ?_ ?_
              rotate_left
              ·rintro w' ⟨s0, s1, s2⟩
               go_simp
               with_reducible rfl
              rotate_left
              ·simp only [Act.put, List.setIfInBounds_toArray, List.set_cons_zero, List.set_cons_succ, i64_w, i32_w]
               rfl
              refine one_ (i := 4) (N := some 80) #[true,true,true,true,true,false,false,false] rfl rfl (one_of HT_.out (by kernel_rfl)) (by decide) (fun K hK => ?_)
              refine goes_ Try.func122 (by kernel_rfl) rfl #[.agg #[.slice Ao35 t301.length co35], .agg #[.int .i64 x306000_1, .int .i64 (Go.bits .or .i64 x306001_1 t313)]] (by rfl) rfl rfl mM ?_
              with_reducible refine (impl_net_threatened.calls kj59 _ _ t301 x306000_1 (Go.bits .or .i64 x306001_1 t313) t314 _ ?side1 ?side2 A75.out).mono ?_
              (case side1 => exact cP (Kd.R_reads' HO_305000.out).2.2)
              (case side2 => exact (Kd.R_reads' HO_305000.out).2.1)
              rintro e w81 ⟨rfl, hb⟩
              refine ⟨_, rfl, ?_⟩
              have n0_ := Aside0.mk (Kd.R_below (by exact rP HO_13.out) hb)
              have n1_ := Aside0.mk (Kd.R_below (by exact rP HO_305000.out) hb)
              have n2_ := Aside0.mk (blk_below (g := gb299) (o := .cells #[.int .i64 a0_0, .slice A0_1 l0_1.length c0_1] 31 (0, 0)) (by exact kP BK299.out) hb)
              have n3_ := Aside0.mk (blk_below (g := gb300) (o := .cells #[.int .i64 x301000_1, .int .i64 x301001_1] 75 (0, 0)) (by exact kP BK300.out) hb)
              have n4_ := Aside0.mk (blk_below (g := gb304) (o := .cells #[.slice Ao35 t301.length co35] 80 (0, 0)) (by exact kP BK304.out) hb)
              have n5_ := Aside0.mk (blk_below (g := gb305) (o := .cells #[.int .i64 x306000_1, .int .i64 (Go.bits .or .i64 x306001_1 t313)] 75 (0, 0)) (by exact kP BK305.out) hb)
              have n6_ := Aside0.mk (below_step (by exact bB) hb)
              clear HO_13
              clear HO_305000
              clear BK299
              clear BK300
              clear BK304
              clear BK305
              clear HB
              have HO_13 := n0_
              have HO_305000 := n1_
              have BK299 := n2_
              have BK300 := n3_
              have BK304 := n4_
              have BK305 := n5_
              have HB := n6_
              clear n0_ n1_ n2_ n3_ n4_ n5_ n6_
              (try clear hb)
              (try clear hb2)
              (try clear hk)
              (try clear hi)
              refine hK.out _ _ ⟨(blk_cell BK305.out 0).trans rfl, (blk_cell BK305.out 1).trans rfl, (blk_cell BK304.out 0).trans rfl⟩ (fun hHeld => ?_)
              clear hK K
              refine norm_ (a' := ?_) ?_ ?_
              rotate_left
              ·show Act.put _ (some 80) _ = _
               simp only [Act.put, List.setIfInBounds_toArray, List.set_cons_zero, List.set_cons_succ, i64_w, i32_w]
               rfl
              refine pure_ (i := 5) (N := some 81) (v := ?_) (a' := ?_) #[true,true,true,true,true,true,false,false] rfl rfl (any_of HT_.out (by kernel_rfl)) (fun _ _ _ h => h) (Or.inl ⟨by rfl, ?_⟩) ?_ ?_
              rotate_left
              ·intro w'
               go_simp
               with_reducible rfl
              rotate_left
              ·simp only [Act.put, List.setIfInBounds_toArray, List.set_cons_zero, List.set_cons_succ, i64_w, i32_w]
               rfl
              refine pure_ (i := 6) (N := some 82) (v := ?_) (a' := ?_) #[true,true,true,true,true,true,true,false] rfl rfl (any_of HT_.out (by kernel_rfl)) (fun _ _ _ h => h) (Or.inl ⟨by rfl, ?_⟩) ?_ ?_
              rotate_left
              ·intro w'
               go_simp
               with_reducible rfl
              rotate_left
              ·simp only [Act.put, List.setIfInBounds_toArray, List.set_cons_zero, List.set_cons_succ, i64_w, i32_w]
               rfl
              refine last_ (i := 7) (N := none) #[true,true,true,true,true,true,true,true] rfl rfl (one_of HT_.out (by kernel_rfl)) (by decide) (fun K hK => ?_)
              have hs82 : w81.cell? ⟨gb305, 0, none⟩ = some (.int .i64 x306000_1) := (blk_cell BK305.out 0).trans rfl
              have hfs82 := blk_frozen BK305.out 0
              have hns82_0 := NB299_305.out
              have hns82_1 := NB300_305.out
              have hns82_2 := NB304_305.out
              have hms82_0 := NB305_299.out
              have hms82_1 := NB305_300.out
              have hms82_2 := NB305_304.out
              refine skip_ (w1 := ?_) (by rfl) rfl ?_ ?_
              rotate_left
              ·go_simp
               rfl
              refine hK.out _ _ ?_
              clear hK K
              refine done_ (done_of HT_.out (by kernel_rfl)) ?_
              have hnb83 := NB305_299.out
              have hnc83 := NB299_305.out
              have hnb84 := NB305_300.out
              have hnc84 := NB300_305.out
              have hnb85 := NB305_304.out
              have hnc85 := NB304_305.out
              have hcz86_0 : w81.cell? ⟨gb305, 0, none⟩ = some (.int .i64 x306000_1) := (blk_cell BK305.out 0).trans rfl
              have hcz86_1 : w81.cell? ⟨gb305, 1, none⟩ = some (.int .i64 (Go.bits .or .i64 x306001_1 t313)) := (blk_cell BK305.out 1).trans rfl
              have hfz86_0 := blk_frozen BK305.out 0
              have hfz86_1 := blk_frozen BK305.out 1
              try go_wp2_with (first | ((with_reducible refine gate_builtin (b := .append) (xs := #[.tmp 83, .tmp 86]) rfl ?_);at_builtin;refine Kd.R_append (Kd.int .i64) (w0 := w) w.heap.size rfl (.tmp 83) (.tmp 86) 28 3 (.int .i64 0) 8 rfl Try.underlying28 info3 rfl (by decide) (by omega) u13 x13_1 (Go.bits .or .i64 x306000_1 t314) [.int .i64 (Go.bits .or .i64 x306000_1 t314)] (fun k_ => some k_ ≠ (.slice Ao35 t301.length co35 : Value).ownBlock) (fun _ => False) rfl (by first | (go_simp;done) | (go_simp;rfl)) ?aP (fun _ hk => hk.elim) ?aF ?aO ?aB ?aS ?aL ?_;(case aP => exact rfl);(case aB => exact (by exact bB));(case aF => exact (fun k_ hk => Kd.fresh' (Kd.R_lt (by refine rP ?_;exact (Kd.R_mono (Kd.R_far (p := ⟨gb305, 0, none⟩) (Kd.R_types HO_305000.out BK305.out (by decide)) (fun _ hk => hk.2) (.int .i64 (Go.bits .or .i64 x306000_1 t314))) (fun _ h_ => h_.1)))) k_ hk));(case aO => exact (by refine rP ?_;exact Kd.R_mono (Kd.R_far (p := ⟨gb305, 0, none⟩) (Kd.R_types HO_13.out BK305.out (by decide)) (fun _ hk => hk.2) (.int .i64 (Go.bits .or .i64 x306000_1 t314))) (fun _ hk => hk.1)));(case aS => exact (below_size (by exact bB)));(case aL => have := LMc76.out;omega);intro v316 w87 ho hb hg hat;rw [← Ny315.out] at ho;have n0_ := Aside0.mk (Kd.R_after (ok := (fun _ => True)) (by exact rP (Kd.R_mono (Kd.R_far (p := ⟨gb305, 0, none⟩) (Kd.R_types HO_305000.out BK305.out (by decide)) (fun _ hk => hk.2) (.int .i64 (Go.bits .or .i64 x306000_1 t314))) (fun _ hk => ⟨trivial, hk.1⟩))) hg hat);have n1_ := Aside0.mk (blk_grown (g := gb299) (o := .cells #[.int .i64 a0_0, .slice A0_1 l0_1.length c0_1] 31 (0, 0)) (by refine kP ?_;refine blk_far ?_ NB299_305.out _;exact kP BK299.out) hg (Kd.R_ne HO_13.out BK299.out (by decide)));have n2_ := Aside0.mk (blk_grown (g := gb300) (o := .cells #[.int .i64 x301000_1, .int .i64 x301001_1] 75 (0, 0)) (by refine kP ?_;refine blk_far ?_ NB300_305.out _;exact kP BK300.out) hg (Kd.R_ne HO_13.out BK300.out (by decide)));have n3_ := Aside0.mk (blk_grown (g := gb304) (o := .cells #[.slice Ao35 t301.length co35] 80 (0, 0)) (by refine kP ?_;refine blk_far ?_ NB304_305.out _;exact kP BK304.out) hg (Kd.R_ne HO_13.out BK304.out (by decide)));have n4_ := Aside0.mk (blk_grown (g := gb305) (o := .cells #[.int .i64 (Go.bits .or .i64 x306000_1 t314), .int .i64 (Go.bits .or .i64 x306001_1 t313)] 75 (0, 0)) (by refine kP ?_;refine blk_put (cs := #[.int .i64 x306000_1, .int .i64 (Go.bits .or .i64 x306001_1 t313)]) ?_ 0 _ rfl;exact kP BK305.out) hg (Kd.R_ne HO_13.out BK305.out (by decide)));have n5_ := Aside0.mk (hb);have n6_ := Aside0.mk (ho);clear HO_305000;clear BK299;clear BK300;clear BK304;clear BK305;clear HB;clear HO_13;have HO_305000 := n0_;have BK299 := n1_;have BK300 := n2_;have BK304 := n3_;have BK305 := n4_;have HB := n5_;have HO317 := n6_;clear n0_ n1_ n2_ n3_ n4_ n5_ n6_;clear ho hb hg hat))
              go_roundg kj59
              case measure => have := HK1.out;have := HJ45.out;have := HJ59.out;omega
              case rel => exact ⟨(y315), (wrap64 (x14_1 + 1)), (x301000_1), (x301001_1), (Go.bits .or .i64 x306000_1 t314), (Go.bits .or .i64 x306001_1 t313), (by first | rfl | (simp;done) | (simp [*];done)), H', ⟨by have := HK1.out;have := HJ45.out;have := HJ59.out;omega⟩, ⟨by exact rP HO317.out⟩, ⟨by refine rP ?_;exact Kd.R_mono HO_305000.out (fun _ hk => hk.2)⟩, ⟨by exact kP BK299.out⟩, ⟨by exact kP BK300.out⟩, ⟨by exact kP BK304.out⟩, ⟨by exact kP BK305.out⟩, ⟨by exact bB⟩⟩
             ·rw [if_neg c76] at H
              exact absurd H (by simp)
         ·rw [if_neg c59] at H
          exact absurd H (by simp)
        ·rw [if_neg c58] at H
         have c58b0 : decide (x14_1 < (l3.length : Int)) = false := decide_eq_false c58
         clear c58
         replace H := Option.bind_eq_some_iff.mp H
         obtain ⟨t318, A880, H⟩ := H
         replace H : (if x13_1.length < 17592186044416 then (impl_firePlan.l0 kj45 a2 l3 (x13_1 ++ [Go.bits .or .i64 x306000_1 t318]) (wrap64 (x14_1 + 1)) a0_0 l0_1 t301 (Go.bits .or .i64 x306000_1 t318) x306001_1) else (none)) = some (r1, r2, r3, r4) := H
         have A88 := Aside0.mk A880
         clear A880
         by_cases c89 : x13_1.length < 17592186044416
         ·rw [if_pos c89] at H
          have LMc89 := Aside0.mk c89
          clear c89
          obtain ⟨y319, hy319⟩ : ∃ y_ : List Int, y_ = (x13_1 ++ [Go.bits .or .i64 x306000_1 t318]) := ⟨_, rfl⟩
          replace H : (impl_firePlan.l0 kj45 a2 l3 y319 (wrap64 (x14_1 + 1)) a0_0 l0_1 t301 (Go.bits .or .i64 x306000_1 t318) x306001_1) = some (r1, r2, r3, r4) := by first | (rw [hy319];with_reducible exact H) | (have H2_ := (Option.bind_some _ _).symm.trans H;rw [hy319];with_reducible exact H2_) | (have H2_ := (Option.bind_some _ _).symm.trans H;with_reducible exact H2_) | with_reducible exact H | (rw [hy319];exact H) | exact H
          have Ny319 := Aside0.mk hy319
          clear hy319
          have H' := Aside0.mk H
          clear H
          try go_wp2
          have n0_ := Aside0.mk (Kd.R_drew HO_13.out)
          have n1_ := Aside0.mk (Kd.R_drew HO_305000.out)
          have n2_ := Aside0.mk (blk_drew BK299.out)
          have n3_ := Aside0.mk (blk_drew BK300.out)
          have n4_ := Aside0.mk (blk_drew BK304.out)
          have n5_ := Aside0.mk (blk_drew BK305.out)
          have n6_ := Aside0.mk (below_drew1 HB.out)
          clear HO_13
          clear HO_305000
          clear BK299
          clear BK300
          clear BK304
          clear BK305
          clear HB
          have HO_13 := n0_
          have HO_305000 := n1_
          have BK299 := n2_
          have BK300 := n3_
          have BK304 := n4_
          have BK305 := n5_
          have HB := n6_
          clear n0_ n1_ n2_ n3_ n4_ n5_ n6_
          refine start_ (n := 8) (S := fun w' => w'.cell? ⟨gb305, 0, none⟩ = some (.int .i64 x306000_1) ∧ w'.cell? ⟨gb305, 1, none⟩ = some (.int .i64 x306001_1) ∧ w'.cell? ⟨gb304, 0, none⟩ = some (.slice Ao35 t301.length co35)) (ds := [7]) #[false,false,false,false,false,false,false,false] (by kernel_rfl) rfl rfl ⟨(blk_cell BK305.out 0).trans rfl, (blk_cell BK305.out 1).trans rfl, (blk_cell BK304.out 0).trans rfl⟩ (fun hHeld => ?_);refine with_tabW impl_firePlan.tab14 impl_firePlan.bits14 (fun HT_ HW_ => ?_)
          generalize wc.drew = w90 at HO_13 HO_305000 BK299 BK300 BK304 BK305 HB hHeld ⊢
          refine pure_ (i := 0) (N := some 76) (v := ?_) (a' := ?_) #[true,false,false,false,false,false,false,false] rfl rfl (any_of HT_.out (by kernel_rfl)) (fun _ _ _ h => h) (Or.inl ⟨by rfl, ?_⟩) ?_ ?_
          rotate_left
          ·intro w'
           go_simp
           with_reducible rfl
          rotate_left
          ·simp only [Act.put, List.setIfInBounds_toArray, List.set_cons_zero, List.set_cons_succ, i64_w, i32_w]
           rfl
          refine take_ (i := 1) (N := some 77) (v := ?_) (a' := ?_) #[true,true,false,false,false,false,false,false] rfl rfl (take_ofW HT_.out HW_.out (by kernel_rfl)) (fun _ _ _ h => h) (Or.inl ⟨by rfl, ?_⟩) hHeld ?_ ?_
          rotate_left
          ·rintro w' ⟨s0, s1, s2⟩
           go_simp
           with_reducible rfl
          rotate_left
          ·simp only [Act.put, List.setIfInBounds_toArray, List.set_cons_zero, List.set_cons_succ, i64_w, i32_w]
           rfl
          refine take_ (i := 2) (N := some 78) (v := ?_) (a' := ?_) #[true,true,true,false,false,false,false,false] rfl rfl (take_ofW HT_.out HW_.out (by kernel_rfl)) (fun _ _ _ h => h) (Or.inl ⟨by rfl, ?_⟩) hHeld ?_ ?_
          rotate_left
          ·rintro w' ⟨s0, s1, s2⟩
           go_simp
           with_reducible rfl
          rotate_left
          ·simp only [Act.put, List.setIfInBounds_toArray, List.set_cons_zero, List.set_cons_succ, i64_w, i32_w]
           rfl
          refine take_ (i := 3) (N := some 79) (v := ?_) (a' := ?_) #[true,true,true,true,false,false,false,false] rfl rfl (take_ofW HT_.out HW_.out (by kernel_rfl)) (fun _ _ _ h => h) (Or.inl ⟨by rfl, ?_⟩) hHeld ?_ ?_
          rotate_left
          ·rintro w' ⟨s0, s1, s2⟩
           go_simp
           with_reducible rfl
          rotate_left
          ·simp only [Act.put, List.setIfInBounds_toArray, List.set_cons_zero, List.set_cons_succ, i64_w, i32_w]
           rfl
          refine one_ (i := 4) (N := some 80) #[true,true,true,true,true,false,false,false] rfl rfl (one_of HT_.out (by kernel_rfl)) (by decide) (fun K hK => ?_)
          refine goes_ Try.func122 (by kernel_rfl) rfl #[.agg #[.slice Ao35 t301.length co35], .agg #[.int .i64 x306000_1, .int .i64 x306001_1]] (by rfl) rfl rfl mM ?_
          with_reducible refine (impl_net_threatened.calls kj45 _ _ t301 x306000_1 x306001_1 t318 _ ?side1 ?side2 A88.out).mono ?_
          (case side1 => exact cP (Kd.R_reads' HO_305000.out).2.2)
          (case side2 => exact (Kd.R_reads' HO_305000.out).2.1)
          rintro e w91 ⟨rfl, hb⟩
          refine ⟨_, rfl, ?_⟩
          have n0_ := Aside0.mk (Kd.R_below (by exact rP HO_13.out) hb)
          have n1_ := Aside0.mk (Kd.R_below (by exact rP HO_305000.out) hb)
          have n2_ := Aside0.mk (blk_below (g := gb299) (o := .cells #[.int .i64 a0_0, .slice A0_1 l0_1.length c0_1] 31 (0, 0)) (by exact kP BK299.out) hb)
          have n3_ := Aside0.mk (blk_below (g := gb300) (o := .cells #[.int .i64 x301000_1, .int .i64 x301001_1] 75 (0, 0)) (by exact kP BK300.out) hb)
          have n4_ := Aside0.mk (blk_below (g := gb304) (o := .cells #[.slice Ao35 t301.length co35] 80 (0, 0)) (by exact kP BK304.out) hb)
          have n5_ := Aside0.mk (blk_below (g := gb305) (o := .cells #[.int .i64 x306000_1, .int .i64 x306001_1] 75 (0, 0)) (by exact kP BK305.out) hb)
          have n6_ := Aside0.mk (below_step (by exact bB) hb)
          clear HO_13
          clear HO_305000
          clear BK299
          clear BK300
          clear BK304
          clear BK305
          clear HB
          have HO_13 := n0_
          have HO_305000 := n1_
          have BK299 := n2_
          have BK300 := n3_
          have BK304 := n4_
          have BK305 := n5_
          have HB := n6_
          clear n0_ n1_ n2_ n3_ n4_ n5_ n6_
          (try clear hb)
          (try clear hb2)
          (try clear hk)
          (try clear hi)
          refine hK.out _ _ ⟨(blk_cell BK305.out 0).trans rfl, (blk_cell BK305.out 1).trans rfl, (blk_cell BK304.out 0).trans rfl⟩ (fun hHeld => ?_)
          clear hK K
          refine norm_ (a' := ?_) ?_ ?_
          rotate_left
          ·show Act.put _ (some 80) _ = _
           simp only [Act.put, List.setIfInBounds_toArray, List.set_cons_zero, List.set_cons_succ, i64_w, i32_w]
           rfl
          refine pure_ (i := 5) (N := some 81) (v := ?_) (a' := ?_) #[true,true,true,true,true,true,false,false] rfl rfl (any_of HT_.out (by kernel_rfl)) (fun _ _ _ h => h) (Or.inl ⟨by rfl, ?_⟩) ?_ ?_
          rotate_left
          ·intro w'
           go_simp
           with_reducible rfl
          rotate_left
          ·simp only [Act.put, List.setIfInBounds_toArray, List.set_cons_zero, List.set_cons_succ, i64_w, i32_w]
           rfl
          refine pure_ (i := 6) (N := some 82) (v := ?_) (a' := ?_) #[true,true,true,true,true,true,true,false] rfl rfl (any_of HT_.out (by kernel_rfl)) (fun _ _ _ h => h) (Or.inl ⟨by rfl, ?_⟩) ?_ ?_
          rotate_left
          ·intro w'
           go_simp
           with_reducible rfl
          rotate_left
          ·simp only [Act.put, List.setIfInBounds_toArray, List.set_cons_zero, List.set_cons_succ, i64_w, i32_w]
           rfl
          refine last_ (i := 7) (N := none) #[true,true,true,true,true,true,true,true] rfl rfl (one_of HT_.out (by kernel_rfl)) (by decide) (fun K hK => ?_)
          have hs92 : w91.cell? ⟨gb305, 0, none⟩ = some (.int .i64 x306000_1) := (blk_cell BK305.out 0).trans rfl
          have hfs92 := blk_frozen BK305.out 0
          have hns92_0 := NB299_305.out
          have hns92_1 := NB300_305.out
          have hns92_2 := NB304_305.out
          have hms92_0 := NB305_299.out
          have hms92_1 := NB305_300.out
          have hms92_2 := NB305_304.out
          refine skip_ (w1 := ?_) (by rfl) rfl ?_ ?_
          rotate_left
          ·go_simp
           rfl
          refine hK.out _ _ ?_
          clear hK K
          refine done_ (done_of HT_.out (by kernel_rfl)) ?_
          have hnb93 := NB305_299.out
          have hnc93 := NB299_305.out
          have hnb94 := NB305_300.out
          have hnc94 := NB300_305.out
          have hnb95 := NB305_304.out
          have hnc95 := NB304_305.out
          have hcz96_0 : w91.cell? ⟨gb305, 0, none⟩ = some (.int .i64 x306000_1) := (blk_cell BK305.out 0).trans rfl
          have hcz96_1 : w91.cell? ⟨gb305, 1, none⟩ = some (.int .i64 x306001_1) := (blk_cell BK305.out 1).trans rfl
          have hfz96_0 := blk_frozen BK305.out 0
          have hfz96_1 := blk_frozen BK305.out 1
          try go_wp2_with (first | ((with_reducible refine gate_builtin (b := .append) (xs := #[.tmp 83, .tmp 86]) rfl ?_);at_builtin;refine Kd.R_append (Kd.int .i64) (w0 := w) w.heap.size rfl (.tmp 83) (.tmp 86) 28 3 (.int .i64 0) 8 rfl Try.underlying28 info3 rfl (by decide) (by omega) u13 x13_1 (Go.bits .or .i64 x306000_1 t318) [.int .i64 (Go.bits .or .i64 x306000_1 t318)] (fun k_ => some k_ ≠ (.slice Ao35 t301.length co35 : Value).ownBlock) (fun _ => False) rfl (by first | (go_simp;done) | (go_simp;rfl)) ?aP (fun _ hk => hk.elim) ?aF ?aO ?aB ?aS ?aL ?_;(case aP => exact rfl);(case aB => exact (by exact bB));(case aF => exact (fun k_ hk => Kd.fresh' (Kd.R_lt (by refine rP ?_;exact (Kd.R_mono (Kd.R_far (p := ⟨gb305, 0, none⟩) (Kd.R_types HO_305000.out BK305.out (by decide)) (fun _ hk => hk.2) (.int .i64 (Go.bits .or .i64 x306000_1 t318))) (fun _ h_ => h_.1)))) k_ hk));(case aO => exact (by refine rP ?_;exact Kd.R_mono (Kd.R_far (p := ⟨gb305, 0, none⟩) (Kd.R_types HO_13.out BK305.out (by decide)) (fun _ hk => hk.2) (.int .i64 (Go.bits .or .i64 x306000_1 t318))) (fun _ hk => hk.1)));(case aS => exact (below_size (by exact bB)));(case aL => have := LMc89.out;omega);intro v320 w97 ho hb hg hat;rw [← Ny319.out] at ho;have n0_ := Aside0.mk (Kd.R_after (ok := (fun _ => True)) (by exact rP (Kd.R_mono (Kd.R_far (p := ⟨gb305, 0, none⟩) (Kd.R_types HO_305000.out BK305.out (by decide)) (fun _ hk => hk.2) (.int .i64 (Go.bits .or .i64 x306000_1 t318))) (fun _ hk => ⟨trivial, hk.1⟩))) hg hat);have n1_ := Aside0.mk (blk_grown (g := gb299) (o := .cells #[.int .i64 a0_0, .slice A0_1 l0_1.length c0_1] 31 (0, 0)) (by refine kP ?_;refine blk_far ?_ NB299_305.out _;exact kP BK299.out) hg (Kd.R_ne HO_13.out BK299.out (by decide)));have n2_ := Aside0.mk (blk_grown (g := gb300) (o := .cells #[.int .i64 x301000_1, .int .i64 x301001_1] 75 (0, 0)) (by refine kP ?_;refine blk_far ?_ NB300_305.out _;exact kP BK300.out) hg (Kd.R_ne HO_13.out BK300.out (by decide)));have n3_ := Aside0.mk (blk_grown (g := gb304) (o := .cells #[.slice Ao35 t301.length co35] 80 (0, 0)) (by refine kP ?_;refine blk_far ?_ NB304_305.out _;exact kP BK304.out) hg (Kd.R_ne HO_13.out BK304.out (by decide)));have n4_ := Aside0.mk (blk_grown (g := gb305) (o := .cells #[.int .i64 (Go.bits .or .i64 x306000_1 t318), .int .i64 x306001_1] 75 (0, 0)) (by refine kP ?_;refine blk_put (cs := #[.int .i64 x306000_1, .int .i64 x306001_1]) ?_ 0 _ rfl;exact kP BK305.out) hg (Kd.R_ne HO_13.out BK305.out (by decide)));have n5_ := Aside0.mk (hb);have n6_ := Aside0.mk (ho);clear HO_305000;clear BK299;clear BK300;clear BK304;clear BK305;clear HB;clear HO_13;have HO_305000 := n0_;have BK299 := n1_;have BK300 := n2_;have BK304 := n3_;have BK305 := n4_;have HB := n5_;have HO321 := n6_;clear n0_ n1_ n2_ n3_ n4_ n5_ n6_;clear ho hb hg hat))
          go_roundg kj45
          case measure => have := HK1.out;have := HJ45.out;omega
          case rel => exact ⟨(y319), (wrap64 (x14_1 + 1)), (x301000_1), (x301001_1), (Go.bits .or .i64 x306000_1 t318), (x306001_1), (by first | rfl | (simp;done) | (simp [*];done)), H', ⟨by have := HK1.out;have := HJ45.out;omega⟩, ⟨by exact rP HO321.out⟩, ⟨by refine rP ?_;exact Kd.R_mono HO_305000.out (fun _ hk => hk.2)⟩, ⟨by exact kP BK299.out⟩, ⟨by exact kP BK300.out⟩, ⟨by exact kP BK304.out⟩, ⟨by exact kP BK305.out⟩, ⟨by exact bB⟩⟩
         ·rw [if_neg c89] at H
          exact absurd H (by simp)
       ·replace c57 := Bool.eq_false_iff.mpr c57
        subst c57
        have H1 : (some (x13_1, x306000_1, x306001_1, true)) = some (r1, r2, r3, r4) := by rw [if_neg (show ¬ (false = true) by decide)] at H;exact H
        clear H
        have H := H1
        clear H1
        simp only [Option.some.injEq, Prod.mk.injEq] at H
        obtain ⟨rfl, rfl, rfl, rfl⟩ := H
        try go_wp2
        have n0_ := Aside0.mk (Kd.R_drew HO_13.out)
        have n1_ := Aside0.mk (Kd.R_drew HO_305000.out)
        have n2_ := Aside0.mk (blk_drew BK299.out)
        have n3_ := Aside0.mk (blk_drew BK300.out)
        have n4_ := Aside0.mk (blk_drew BK304.out)
        have n5_ := Aside0.mk (blk_drew BK305.out)
        have n6_ := Aside0.mk (below_drew1 HB.out)
        clear HO_13
        clear HO_305000
        clear BK299
        clear BK300
        clear BK304
        clear BK305
        clear HB
        have HO_13 := n0_
        have HO_305000 := n1_
        have BK299 := n2_
        have BK300 := n3_
        have BK304 := n4_
        have BK305 := n5_
        have HB := n6_
        clear n0_ n1_ n2_ n3_ n4_ n5_ n6_
        refine start_ (n := 5) (S := fun w' => w'.cell? ⟨gb305, 0, none⟩ = some (.int .i64 x306000_1) ∧ w'.cell? ⟨gb305, 1, none⟩ = some (.int .i64 x306001_1)) (ds := []) #[false,false,false,false,false] (by kernel_rfl) rfl rfl ⟨(blk_cell BK305.out 0).trans rfl, (blk_cell BK305.out 1).trans rfl⟩ (fun hHeld => ?_)
        generalize wc.drew = w98 at HO_13 HO_305000 BK299 BK300 BK304 BK305 HB hHeld ⊢
        refine pure_ (i := 0) (N := some 88) (v := ?_) (a' := ?_) #[true,false,false,false,false] rfl rfl (by kernel_rfl) (fun _ _ _ h => h) (Or.inl ⟨by rfl, ?_⟩) ?_ ?_
        rotate_left
        ·intro w'
         go_simp
         with_reducible rfl
        rotate_left
        ·simp only [Act.put, List.setIfInBounds_toArray, List.set_cons_zero, List.set_cons_succ, i64_w, i32_w]
         rfl
        refine pure_ (i := 2) (N := some 8) (v := ?_) (a' := ?_) #[true,false,true,false,false] rfl rfl (by kernel_rfl) (fun _ _ _ h => h) (Or.inl ⟨by rfl, ?_⟩) ?_ ?_
        rotate_left
        ·intro w'
         go_simp
         with_reducible rfl
        rotate_left
        ·simp only [Act.put, List.setIfInBounds_toArray, List.set_cons_zero, List.set_cons_succ, i64_w, i32_w]
         rfl
        refine take_ (i := 1) (N := some 89) (v := ?_) (a' := ?_) #[true,true,true,false,false] rfl rfl (by kernel_rfl) (fun _ _ _ h => h) (Or.inl ⟨by rfl, ?_⟩) hHeld ?_ ?_
        rotate_left
        ·rintro w' ⟨s0, s1⟩
         go_simp
         with_reducible rfl
        rotate_left
        ·simp only [Act.put, List.setIfInBounds_toArray, List.set_cons_zero, List.set_cons_succ, i64_w, i32_w]
         rfl
        refine one_ (i := 3) (N := none) #[true,true,true,true,false] rfl rfl (by kernel_rfl) (by decide) (fun K hK => ?_)
        have hs99 : w98.cell? ⟨gb300, 0, none⟩ = some (.int .i64 x301000_1) := (blk_cell BK300.out 0).trans rfl
        have hfs99 := blk_frozen BK300.out 0
        have hns99_0 := NB299_300.out
        have hns99_2 := NB304_300.out
        have hns99_3 := NB305_300.out
        have hms99_0 := NB300_299.out
        have hms99_2 := NB300_304.out
        have hms99_3 := NB300_305.out
        have hs100 : w98.cell? ⟨gb300, 1, none⟩ = some (.int .i64 x301001_1) := (blk_cell BK300.out 1).trans rfl
        have hfs100 := blk_frozen BK300.out 1
        have hns100_0 := NB299_300.out
        have hns100_2 := NB304_300.out
        have hns100_3 := NB305_300.out
        have hms100_0 := NB300_299.out
        have hms100_2 := NB300_304.out
        have hms100_3 := NB300_305.out
        refine skip_ (w1 := ?_) (by rfl) rfl ?_ ?_
        rotate_left
        ·go_simp
         rfl
        refine hK.out _ _ ⟨((cell_far (p := ⟨gb300, _, none⟩) NB305_300.out _).trans (((cell_far (p := ⟨gb300, _, none⟩) NB305_300.out _).trans (hHeld.1)))), ((cell_far (p := ⟨gb300, _, none⟩) NB305_300.out _).trans (((cell_far (p := ⟨gb300, _, none⟩) NB305_300.out _).trans (hHeld.2))))⟩ (fun hHeld => ?_)
        clear hK K
        refine pure_ (i := 4) (N := some 10) (v := ?_) (a' := ?_) #[true,true,true,true,true] rfl rfl (by kernel_rfl) (fun _ _ _ h => h) (Or.inl ⟨by rfl, ?_⟩) ?_ ?_
        rotate_left
        ·intro w'
         go_simp
         with_reducible rfl
        rotate_left
        ·simp only [Act.put, List.setIfInBounds_toArray, List.set_cons_zero, List.set_cons_succ, i64_w, i32_w]
         rfl
        refine done_ (by kernel_rfl) ?_
        try go_wp2
        refine bodyPost_ret (results_list (rs := [.tmp 8, .cell 9 75, .tmp 10]) rfl (by simp) (.tmp (.cell gb300 75 #[.int .i64 x306000_1, .int .i64 x306001_1] (0, 0) _ rfl (by refine kP ?_;refine blk_put (cs := #[.int .i64 x306000_1, .int .i64 x301001_1]) ?_ 1 _ rfl;refine kP ?_;refine blk_put (cs := #[.int .i64 x301000_1, .int .i64 x301001_1]) ?_ 0 _ rfl;exact kP BK300.out) Try.underlying75 rfl (by kernel_rfl) (.tmp .nil)))) rfl ?_
        exact ⟨_, by first | rfl | (simp [errW_none, errW_some] <;> rfl) | (simp only [← hji7];first | rfl | (simp [errW_none, errW_some] <;> rfl)) | (simp [*, errW_none, errW_some] <;> rfl), by refine rP ?_;exact Kd.R_mono (Kd.R_far (p := ⟨gb300, 1, none⟩) (Kd.R_far (p := ⟨gb300, 0, none⟩) (Kd.R_types HO_13.out BK300.out (by decide)) (fun _ hk => hk.2) (.int .i64 x306000_1)) (fun _ hk => hk.2) (.int .i64 x306001_1)) (fun _ hk => trivial), by exact bB⟩
 ·rw [if_neg c6] at H
  exact absurd H (by simp)




end Go.Proofs.Ytmokkhfmbenleaa.QSavedNodes
