import Derived.Test.YthbjajppdomhhaaDoorQReversedSet0
import Derived.Test.YthbjajppdomhhaaDoorQReversedSet3
import Derived.Test.YthbjajppdomhhaaDoorQReversedSet4
import Derived.Test.YthbjajppdomhhaaDoorQReversedSet7
import Derived.Test.YthbjajppdomhhaaDoorQReversedSet8
namespace Go.Proofs.YthbjajppdomhhaaDoor.QReversedSet
open Go.RowKit Go.Proofs.YthbjajppdomhhaaDoorW.PrintWords Go.Proofs.YthbjajppdomhhaaDoorW.PrintLast Go.Proofs.YthbjajppdomhhaaDoorW.PrintMore
attribute [local go_sem] max2_int min2_int max_two min_two max_three min_three max_four min_four   -- for this text's walks alone
set_option linter.unusedVariables false
set_option linter.unusedSimpArgs false
/-! ### spec_ReversedSet: function 25 -/
mutual
def spec_ReversedSet.j0 : Nat → List Int → List Int → Bool → Int → List (S92) → Option (List Int × Bool)
 | 0, _, _, _, _, _ => none
 | k + 1, x1, x6, x19, x244000, x244001 => if x19 = true then (some (x6, false)) else ((spec_l9Chains.f k x244000 x244001 x1).bind fun t249 => (spec_ReversedSet.l0 k x6 t249 0))
def spec_ReversedSet.l0 : Nat → List Int → List (List Int) → Int → Option (List Int × Bool)
 | 0, _, _, _ => none
 | k + 1, x6, x7, x8 => if x8 < (x7.length : Int) then (if 0 ≤ x8 then (if 0 ≤ (wrap64 (((rd_L2 x7 x8).length : Int) - 1)) then (if (wrap64 (((rd_L2 x7 x8).length : Int) - 1)) < ((rd_L2 x7 x8).length : Int) then ((spec_l1Put.f x6 (rd (rd_L2 x7 x8) (wrap64 (((rd_L2 x7 x8).length : Int) - 1)))).bind fun t255 => (spec_ReversedSet.l0 k t255 x7 (wrap64 (x8 + 1)))) else (none)) else (none)) else (none)) else (some (x6, true))
end
def spec_ReversedSet.f (k : Nat) (a0_0 : Int) (l0_1 : List (S92)) (l1 : List Int) : Option (List Int × Bool) := (some (([] : List Int) : List Int)).bind fun y244 => ((spec_l9Both.f k a0_0 l0_1 l1).bind fun t247 => (if t247 = true then ((spec_l9Forces.f k a0_0 l0_1 l1).bind fun t248 => (spec_ReversedSet.j0 k l1 y244 (!t248) a0_0 l0_1)) else (spec_ReversedSet.j0 k l1 y244 true a0_0 l0_1)))
theorem spec_ReversedSet.mono_l : ∀ k, (∀ y0 y1 y2 y3 y4, LeO (spec_ReversedSet.j0 k y0 y1 y2 y3 y4) (spec_ReversedSet.j0 (k + 1) y0 y1 y2 y3 y4)) ∧ (∀ y0 y1 y2, LeO (spec_ReversedSet.l0 k y0 y1 y2) (spec_ReversedSet.l0 (k + 1) y0 y1 y2))
 | 0 => ⟨fun _ _ _ _ _ r h => by simp [spec_ReversedSet.j0] at h, fun _ _ _ r h => by simp [spec_ReversedSet.l0] at h⟩
 | k + 1 => by
  obtain ⟨ih0, ih1⟩ := spec_ReversedSet.mono_l k
  refine ⟨?_, ?_⟩
  ·intro y0 y1 y2 y3 y4
   unfold spec_ReversedSet.j0
   repeat' first
   | (with_reducible exact ih0 _ _ _ _ _)
   | (with_reducible exact ih1 _ _ _)
   | (with_reducible exact spec_l9Both.mono _ _ _ _)
   | (with_reducible exact spec_l9Chains.mono _ _ _ _)
   | (with_reducible exact spec_l9Forces.mono _ _ _ _)
   | (with_reducible exact LeO.refl _)
   | (with_reducible exact LeO.none _)
   | (with_reducible refine LeO.ite ?_ ?_)
   | (with_reducible refine LeO.bind ?_ (fun _ => ?_))
   | exact ih0 _ _ _ _ _
   | exact ih1 _ _ _
   | exact spec_l9Both.mono _ _ _ _
   | exact spec_l9Chains.mono _ _ _ _
   | exact spec_l9Forces.mono _ _ _ _
   | exact LeO.none _
   | refine LeO.ite ?_ ?_
   | refine LeO.bind ?_ (fun _ => ?_)
  ·intro y0 y1 y2
   unfold spec_ReversedSet.l0
   repeat' first
   | (with_reducible exact ih0 _ _ _ _ _)
   | (with_reducible exact ih1 _ _ _)
   | (with_reducible exact spec_l9Both.mono _ _ _ _)
   | (with_reducible exact spec_l9Chains.mono _ _ _ _)
   | (with_reducible exact spec_l9Forces.mono _ _ _ _)
   | (with_reducible exact LeO.refl _)
   | (with_reducible exact LeO.none _)
   | (with_reducible refine LeO.ite ?_ ?_)
   | (with_reducible refine LeO.bind ?_ (fun _ => ?_))
   | exact ih0 _ _ _ _ _
   | exact ih1 _ _ _
   | exact spec_l9Both.mono _ _ _ _
   | exact spec_l9Chains.mono _ _ _ _
   | exact spec_l9Forces.mono _ _ _ _
   | exact LeO.none _
   | refine LeO.ite ?_ ?_
   | refine LeO.bind ?_ (fun _ => ?_)
theorem spec_ReversedSet.mono : ∀ a0 a1 a2 k, LeO (spec_ReversedSet.f k a0 a1 a2) (spec_ReversedSet.f (k + 1) a0 a1 a2) := by
 intro a0 a1 a2 k
 obtain ⟨ih0, ih1⟩ := spec_ReversedSet.mono_l k
 unfold spec_ReversedSet.f
 repeat' first
   | (with_reducible exact ih0 _ _ _ _ _)
   | (with_reducible exact ih1 _ _ _)
   | (with_reducible exact spec_l9Both.mono _ _ _ _)
   | (with_reducible exact spec_l9Chains.mono _ _ _ _)
   | (with_reducible exact spec_l9Forces.mono _ _ _ _)
   | (with_reducible exact LeO.refl _)
   | (with_reducible exact LeO.none _)
   | (with_reducible refine LeO.ite ?_ ?_)
   | (with_reducible refine LeO.bind ?_ (fun _ => ?_))
   | exact ih0 _ _ _ _ _
   | exact ih1 _ _ _
   | exact spec_l9Both.mono _ _ _ _
   | exact spec_l9Chains.mono _ _ _ _
   | exact spec_l9Forces.mono _ _ _ _
   | exact LeO.none _
   | refine LeO.ite ?_ ?_
   | refine LeO.bind ?_ (fun _ => ?_)
def spec_ReversedSet.T8 : Bool × List (List Nat × List Nat) := (true, [([], []), ([], []), ([], []), ([1, 2], [1, 2]), ([3], [3]), ([], []), ([], []), ([5, 6], [5, 6]), ([7], [7]), ([8], [8]), ([9], [9]), ([4, 10], [4, 10]), ([11], [11]), ([0, 12], [0, 12]), ([13, 13, 0, 1, 2, 3, 4, 5, 6, 7, 8, 9, 10, 11, 12, 13], [0, 13])])
def spec_ReversedSet.B8 : List Nat := [0, 0, 0, 6, 14, 0, 0, 96, 224, 480, 992, 2046, 4094, 8191, 16383]
theorem spec_ReversedSet.tab8 : rtab .any (opsOf Tryd.f25 8) = spec_ReversedSet.T8 := by kernel_rfl
theorem spec_ReversedSet.bits8 : waitsOk spec_ReversedSet.T8.2 spec_ReversedSet.B8 = true := by kernel_rfl
set_option maxHeartbeats 8000000 in
set_option maxRecDepth 100000 in
theorem spec_ReversedSet.calls (k : Nat) (a0_0 : Int) (A0_1 : Option Addr) (c0_1 : Nat) (l0_1 : List (S92)) (A1 : Option Addr) (c1 : Nat) (l1 : List Int) (r1 : List Int) (r2 : Bool) (w : World) (hr0_1 : Kd.C k92 w A0_1 l0_1.length l0_1) (hc0_1 : l0_1.length ≤ c0_1) (hr1 : Kd.C (Kd.int .i64) w A1 l1.length l1) (hc1 : l1.length ≤ c1) (h : spec_ReversedSet.f k a0_0 l0_1 l1 = some (r1, r2)) :
  Calls Tryd.prog 25 #[.agg #[.int .i64 a0_0, .slice A0_1 l0_1.length c0_1], .slice A1 l1.length c1] w fun e w' => ∃ v0_ : Value, e = .returned (.tuple #[v0_, .bool r2]) ∧ Kd.R (Kd.int .i64) 3 w' w.heap.size (fun _ => True) v0_ r1 ∧ Below w.heap.size w w' := by
 have hu28 := Tryd.underlying28
 have HR0_1 := Aside0.mk hr0_1
 have HC0_1 := Aside0.mk hc0_1
 clear hr0_1 hc0_1
 have HR1 := Aside0.mk hr1
 have HC1 := Aside0.mk hc1
 clear hr1 hc1
 have HB := Aside0.mk (Below.refl w.heap.size w)
 have H : ((some (([] : List Int) : List Int)).bind fun y244 => ((spec_l9Both.f k a0_0 l0_1 l1).bind fun t247 => (if t247 = true then ((spec_l9Forces.f k a0_0 l0_1 l1).bind fun t248 => (spec_ReversedSet.j0 k l1 y244 (!t248) a0_0 l0_1)) else (spec_ReversedSet.j0 k l1 y244 true a0_0 l0_1)))) = some (r1, r2) := h
 clear h
 obtain ⟨y244, hy244⟩ : ∃ y_ : List Int, y_ = (([] : List Int)) := ⟨_, rfl⟩
 replace H : ((spec_l9Both.f k a0_0 l0_1 l1).bind fun t247 => (if t247 = true then ((spec_l9Forces.f k a0_0 l0_1 l1).bind fun t248 => (spec_ReversedSet.j0 k l1 y244 (!t248) a0_0 l0_1)) else (spec_ReversedSet.j0 k l1 y244 true a0_0 l0_1))) = some (r1, r2) := by first | (rw [hy244];with_reducible exact H) | (have H2_ := (Option.bind_some _ _).symm.trans H;rw [hy244];with_reducible exact H2_) | (have H2_ := (Option.bind_some _ _).symm.trans H;with_reducible exact H2_) | with_reducible exact H | (rw [hy244];exact H) | exact H
 have Ny244 := Aside0.mk hy244
 clear hy244
 have HC3 := Aside0.mk H
 clear H
 go_enter Tryd.func25, Tryd.ntmps25
 go_upto_region 2 with (first | ((with_reducible refine gate_dst (N := 2) rfl ?_);refine box_event ?hg (N := 2) ?hd (cs := #[.int .i64 a0_0, .slice A0_1 l0_1.length c0_1]) (t := 28) ?hr ?_;(case hd => rfl);(case hg => rfl);(case hr => first | (go_simp;done) | (go_simp;rfl));intro gb243 hg w4 hbox hb;have n0_ := Aside0.mk (below_step (by exact bB) hb);have n1_ := Aside0.mk (hbox);have n2_ := Aside0.mk ((by rw [hg];exact (below_size (by exact bB)) : w.heap.size ≤ gb243));have n3_ := Aside0.mk ((by rw [hg];exact (below_size (by exact bB)) : w.heap.size ≤ gb243));clear HB;have HB := n0_;have BK243 := n1_;have GW243 := n2_;have GE243 := n3_;clear n0_ n1_ n2_ n3_;clear hb hbox hg) | ((with_reducible refine gate_dst (N := 9) rfl ?_);refine Kd.R_lit (Kd.int .i64) _ 3 ?hg (N := 9) ?hd (xs := ([] : List Int)) (inner := []) (ok := fun _ => True) (okp := fun _ => True) ?hr ?hp (fun _ hk => hk) trivial (Below.refl _ _) (Nat.le_refl _) (by simp) ?_;(case hd => rfl);(case hg => rfl);(case hr => first | (go_simp;done) | (go_simp;rfl));(case hp => exact (Reps.none _ _));intro v245 w5 ho6 hb hg_ hnew_;clear hg_ hnew_;(first | rw [← Ny244.out] at ho6 | (simp only [Int.reduceToNat] at ho6;rw [← Ny244.out] at ho6));have n0_ := Aside0.mk (Kd.R_lower ho6 (below_size (by exact bB)));have n1_ := Aside0.mk (blk_below (g := gb243) (o := .cells #[.int .i64 a0_0, .slice A0_1 l0_1.length c0_1] 28 (0, 0)) (by exact kP BK243.out) hb);have n2_ := Aside0.mk (below_step (by exact bB) hb);clear BK243;clear HB;have HO246 := n0_;have BK243 := n1_;have HB := n2_;clear n0_ n1_ n2_;clear hb ho6))
 (try simp only [Act.put, List.setIfInBounds_toArray, List.set_cons_zero, List.set_cons_succ])
 go_cut [19] (fun v19 wc => ∃ (kq : Nat) (x19_2 : Bool), v19 = .bool x19_2 ∧ Aside0 (spec_ReversedSet.j0 kq l1 y244 x19_2 a0_0 l0_1 = some (r1, r2)) ∧ Aside0 (kq ≤ k) ∧ Aside0 (Kd.R (Kd.int .i64) 3 wc w.heap.size (fun _ => True) v245 y244) ∧ Aside0 (wc.heap[gb243]? = some (.cells #[.int .i64 a0_0, (.slice A0_1 l0_1.length c0_1)] 28 (0, 0))) ∧ Aside0 (Below w.heap.size w wc))
 case first =>
  have H := HC3.out
  clear HC3
  replace H := Option.bind_eq_some_iff.mp H
  obtain ⟨t247, A70, H⟩ := H
  replace H : (if t247 = true then ((spec_l9Forces.f k a0_0 l0_1 l1).bind fun t248 => (spec_ReversedSet.j0 k l1 y244 (!t248) a0_0 l0_1)) else (spec_ReversedSet.j0 k l1 y244 true a0_0 l0_1)) = some (r1, r2) := H
  have A7 := Aside0.mk A70
  clear A70
  by_cases c8 : t247 = true
  ·subst c8
   have H1 : ((spec_l9Forces.f k a0_0 l0_1 l1).bind fun t248 => (spec_ReversedSet.j0 k l1 y244 (!t248) a0_0 l0_1)) = some (r1, r2) := by rw [if_pos rfl] at H;exact H
   clear H
   have H := H1
   clear H1
   replace H := Option.bind_eq_some_iff.mp H
   obtain ⟨t248, A90, H⟩ := H
   replace H : (spec_ReversedSet.j0 k l1 y244 (!t248) a0_0 l0_1) = some (r1, r2) := H
   have A9 := Aside0.mk A90
   clear A90
   have H' := Aside0.mk H
   clear H
   have hcz10_0 : w5.cell? ⟨gb243, 0, none⟩ = some (.int .i64 a0_0) := (blk_cell BK243.out 0).trans rfl
   have hcz10_1 : w5.cell? ⟨gb243, 1, none⟩ = some (.slice A0_1 l0_1.length c0_1) := (blk_cell BK243.out 1).trans rfl
   have hfz10_0 := blk_frozen BK243.out 0
   have hfz10_1 := blk_frozen BK243.out 1
   go_wp2_with (first | ((with_reducible refine gate_callee (f := 58) rfl ?_);refine goesL_ (some 12) rfl rfl Tryd.func58 (by kernel_rfl) rfl #[.agg #[.int .i64 a0_0, .slice A0_1 l0_1.length c0_1], .slice A1 l1.length c1] rfl mM ?_;(with_reducible refine (spec_l9Both.calls k a0_0 _ _ l0_1 _ _ l1 true _ ?side1 ?side2 ?side3 ?side4 A7.out).mono ?_);(case side1 => exact cP (Kd.C_below HR0_1.out HB.out));(case side2 => exact HC0_1.out);(case side3 => exact cP (Kd.C_below HR1.out HB.out));(case side4 => exact HC1.out);rintro e w11 ⟨rfl, hb⟩;refine ⟨_, rfl, ?_⟩;have n0_ := Aside0.mk (Kd.R_below (by exact rP HO246.out) hb);have n1_ := Aside0.mk (blk_below (g := gb243) (o := .cells #[.int .i64 a0_0, .slice A0_1 l0_1.length c0_1] 28 (0, 0)) (by exact kP BK243.out) hb);have n2_ := Aside0.mk (below_step (by exact bB) hb);clear HO246;clear BK243;clear HB;have HO246 := n0_;have BK243 := n1_;have HB := n2_;clear n0_ n1_ n2_;(try clear hb);(try clear hb2);(try clear hk);(try clear hi);have hcz12_0 : w11.cell? ⟨gb243, 0, none⟩ = some (.int .i64 a0_0) := (blk_cell BK243.out 0).trans rfl;have hcz12_1 : w11.cell? ⟨gb243, 1, none⟩ = some (.slice A0_1 l0_1.length c0_1) := (blk_cell BK243.out 1).trans rfl;have hfz12_0 := blk_frozen BK243.out 0;have hfz12_1 := blk_frozen BK243.out 1) | (go_at_call 59;(with_reducible refine (spec_l9Forces.calls k a0_0 _ _ l0_1 _ _ l1 t248 _ ?side1 ?side2 ?side3 ?side4 A9.out).mono ?_);(case side1 => exact cP (Kd.C_below HR0_1.out HB.out));(case side2 => exact HC0_1.out);(case side3 => exact cP (Kd.C_below HR1.out HB.out));(case side4 => exact HC1.out);rintro e w13 ⟨rfl, hb⟩;have n0_ := Aside0.mk (Kd.R_below (by exact rP HO246.out) hb);have n1_ := Aside0.mk (blk_below (g := gb243) (o := .cells #[.int .i64 a0_0, .slice A0_1 l0_1.length c0_1] 28 (0, 0)) (by exact kP BK243.out) hb);have n2_ := Aside0.mk (below_step (by exact bB) hb);clear HO246;clear BK243;clear HB;have HO246 := n0_;have BK243 := n1_;have HB := n2_;clear n0_ n1_ n2_;(try clear hb);(try clear hb2);(try clear hk);(try clear hi)))
   go_meet
   case rel => exact ⟨_, (!t248), (by first | rfl | (simp;done) | (simp [*];done)), H', ⟨by first | omega | exact Nat.le_refl _⟩, ⟨by exact rP HO246.out⟩, ⟨by exact kP BK243.out⟩, ⟨by exact bB⟩⟩
  ·replace c8 := Bool.eq_false_iff.mpr c8
   subst c8
   have H1 : (spec_ReversedSet.j0 k l1 y244 true a0_0 l0_1) = some (r1, r2) := by rw [if_neg (show ¬ (false = true) by decide)] at H;exact H
   clear H
   have H := H1
   clear H1
   have H' := Aside0.mk H
   clear H
   have hcz14_0 : w5.cell? ⟨gb243, 0, none⟩ = some (.int .i64 a0_0) := (blk_cell BK243.out 0).trans rfl
   have hcz14_1 : w5.cell? ⟨gb243, 1, none⟩ = some (.slice A0_1 l0_1.length c0_1) := (blk_cell BK243.out 1).trans rfl
   have hfz14_0 := blk_frozen BK243.out 0
   have hfz14_1 := blk_frozen BK243.out 1
   go_wp2_with (first | ((with_reducible refine gate_callee (f := 58) rfl ?_);refine goesL_ (some 12) rfl rfl Tryd.func58 (by kernel_rfl) rfl #[.agg #[.int .i64 a0_0, .slice A0_1 l0_1.length c0_1], .slice A1 l1.length c1] rfl mM ?_;(with_reducible refine (spec_l9Both.calls k a0_0 _ _ l0_1 _ _ l1 false _ ?side1 ?side2 ?side3 ?side4 A7.out).mono ?_);(case side1 => exact cP (Kd.C_below HR0_1.out HB.out));(case side2 => exact HC0_1.out);(case side3 => exact cP (Kd.C_below HR1.out HB.out));(case side4 => exact HC1.out);rintro e w15 ⟨rfl, hb⟩;refine ⟨_, rfl, ?_⟩;have n0_ := Aside0.mk (Kd.R_below (by exact rP HO246.out) hb);have n1_ := Aside0.mk (blk_below (g := gb243) (o := .cells #[.int .i64 a0_0, .slice A0_1 l0_1.length c0_1] 28 (0, 0)) (by exact kP BK243.out) hb);have n2_ := Aside0.mk (below_step (by exact bB) hb);clear HO246;clear BK243;clear HB;have HO246 := n0_;have BK243 := n1_;have HB := n2_;clear n0_ n1_ n2_;(try clear hb);(try clear hb2);(try clear hk);(try clear hi)))
   go_meet
   case rel => exact ⟨_, (true), (by first | rfl | (simp;done) | (simp [*];done)), H', ⟨by first | omega | exact Nat.le_refl _⟩, ⟨by exact rP HO246.out⟩, ⟨by exact kP BK243.out⟩, ⟨by exact bB⟩⟩
 case rest =>
  clear HC3
  try clear c1
  try clear c2
  try clear p2
  try clear c5
  try clear c8
  try clear hcz10_0
  try clear hcz10_1
  try clear hcz12_0
  try clear hcz12_1
  try clear hcz14_0
  try clear hcz14_1
  try clear hfz10_0
  try clear hfz10_1
  try clear hfz12_0
  try clear hfz12_1
  try clear hfz14_0
  try clear hfz14_1
  obtain ⟨kq, x19_2, rfl, HA, HJ2, HO_6, BK243, HB⟩ := hcut
  cases kq with
  | zero => exact absurd HA.out (by simp [spec_ReversedSet.j0])
  | succ kj2 =>
   have H := HA.out
   clear HA
   simp only [spec_ReversedSet.j0] at H
   by_cases c16 : x19_2 = true
   ·subst c16
    have H1 : (some (y244, false)) = some (r1, r2) := by rw [if_pos rfl] at H;exact H
    clear H
    have H := H1
    clear H1
    simp only [Option.some.injEq, Prod.mk.injEq] at H
    obtain ⟨rfl, rfl⟩ := H
    go_wp2
    go_ret2
    exact ⟨_, by first | rfl | (simp [errW_none, errW_some] <;> rfl) | (simp [*, errW_none, errW_some] <;> rfl), by exact rP HO_6.out, by exact bB⟩
   ·replace c16 := Bool.eq_false_iff.mpr c16
    subst c16
    have H1 : ((spec_l9Chains.f kj2 a0_0 l0_1 l1).bind fun t249 => (spec_ReversedSet.l0 kj2 y244 t249 0)) = some (r1, r2) := by rw [if_neg (show ¬ (false = true) by decide)] at H;exact H
    clear H
    have H := H1
    clear H1
    replace H := Option.bind_eq_some_iff.mp H
    obtain ⟨t249, A170, H⟩ := H
    replace H : (spec_ReversedSet.l0 kj2 y244 t249 0) = some (r1, r2) := H
    have A17 := Aside0.mk A170
    clear A170
    have H' := Aside0.mk H
    clear H
    have hcz18_0 : wc.cell? ⟨gb243, 0, none⟩ = some (.int .i64 a0_0) := (blk_cell BK243.out 0).trans rfl
    have hcz18_1 : wc.cell? ⟨gb243, 1, none⟩ = some (.slice A0_1 l0_1.length c0_1) := (blk_cell BK243.out 1).trans rfl
    have hfz18_0 := blk_frozen BK243.out 0
    have hfz18_1 := blk_frozen BK243.out 1
    go_wp2_with (first | ((with_reducible refine gate_callee (f := 60) rfl ?_);refine goesL_ (some 23) rfl rfl Tryd.func60 (by kernel_rfl) rfl #[.agg #[.int .i64 a0_0, .slice A0_1 l0_1.length c0_1], .slice A1 l1.length c1] rfl mM ?_;(with_reducible refine (spec_l9Chains.calls kj2 a0_0 _ _ l0_1 _ _ l1 t249 _ ?side1 ?side2 ?side3 ?side4 A17.out).mono ?_);(case side1 => exact cP (Kd.C_below HR0_1.out HB.out));(case side2 => exact HC0_1.out);(case side3 => exact cP (Kd.C_below HR1.out HB.out));(case side4 => exact HC1.out);rintro e w19 ⟨v250, rfl, ho0, hb⟩;refine ⟨_, rfl, ?_⟩;have n0_ := Aside0.mk (Kd.R_below (by exact rP HO_6.out) hb);have n1_ := Aside0.mk (Kd.S_lower (Kd.S_new' ho0 (Kd.R_lt (by exact rP HO_6.out))) (below_size (by exact bB)));have n2_ := Aside0.mk (blk_below (g := gb243) (o := .cells #[.int .i64 a0_0, .slice A0_1 l0_1.length c0_1] 28 (0, 0)) (by exact kP BK243.out) hb);have n3_ := Aside0.mk (below_step (by exact bB) hb);clear HO_6;clear BK243;clear HB;have HO_6 := n0_;have HO251 := n1_;have BK243 := n2_;have HB := n3_;clear n0_ n1_ n2_ n3_;(try clear hb);(try clear hb2);(try clear hk);(try clear hi);(try clear ho0)))
    go_loopg [6, 8] kj2 (fun kq v6 v8 w' => ∃ (x6_2 : List Int) (x8_2 : Int), v8 = .int .i64 x8_2 ∧ Aside0 (spec_ReversedSet.l0 kq x6_2 t249 x8_2 = some (r1, r2)) ∧ Aside0 (kq ≤ kj2) ∧ Aside0 (Kd.R (Kd.int .i64) 3 w' w.heap.size (fun _ => True) v6 x6_2) ∧ Aside0 (Kd.S (Kd.slice 3 (Kd.int .i64)) 32 w' w.heap.size (fun k_ => some k_ ≠ (v6 : Value).ownBlock) v250 t249) ∧ Aside0 (w'.heap[gb243]? = some (.cells #[.int .i64 a0_0, (.slice A0_1 l0_1.length c0_1)] 28 (0, 0))) ∧ Aside0 (Below w.heap.size w w'))
    case atStart => exact ⟨(y244), (0), (by first | rfl | (simp;done) | (simp [*];done)), H', ⟨Nat.le_refl _⟩, ⟨by exact rP HO_6.out⟩, ⟨by (with_reducible repeat (first | apply Kd.S_alloc | apply Kd.S_drewN | apply Kd.S_drew));exact Kd.S_mono HO251.out (fun _ hk => hk.2)⟩, ⟨by exact kP BK243.out⟩, ⟨by exact bB⟩⟩
    case round =>
     clear H'
     try clear c1
     try clear c2
     try clear p2
     try clear c5
     try clear c6
     try clear c8
     try clear c16
     try clear hcz10_0
     try clear hcz10_1
     try clear hcz12_0
     try clear hcz12_1
     try clear hcz14_0
     try clear hcz14_1
     try clear hcz18_0
     try clear hcz18_1
     try clear hfz10_0
     try clear hfz10_1
     try clear hfz12_0
     try clear hfz12_1
     try clear hfz14_0
     try clear hfz14_1
     try clear hfz18_0
     try clear hfz18_1
     try clear p2
     obtain ⟨x6_2, x8_2, rfl, HA, HK2, HO_6, HO_7, BK243, HB⟩ := hrel
     cases gk with
     | zero => exact absurd HA.out (by simp [spec_ReversedSet.l0])
     | succ k2 =>
      have H := HA.out
      clear HA
      simp only [spec_ReversedSet.l0] at H
      by_cases c20 : x8_2 < (t249.length : Int)
      ·rw [if_pos c20] at H
       have c20b0 : decide (x8_2 < (t249.length : Int)) = true := decide_eq_true c20
       clear c20
       by_cases c21 : 0 ≤ x8_2
       ·rw [if_pos c21] at H
        have c21b0 : decide (0 ≤ x8_2) = true := decide_eq_true c21
        clear c21
        obtain ⟨ji22, hji22⟩ : ∃ j_ : Int, (wrap64 (((rd_L2 t249 x8_2).length : Int) - 1)) = j_ := ⟨_, rfl⟩
        replace H : (if 0 ≤ (ji22) then (if (ji22) < ((rd_L2 t249 x8_2).length : Int) then ((spec_l1Put.f x6_2 (rd (rd_L2 t249 x8_2) (ji22))).bind fun t255 => (spec_ReversedSet.l0 k2 t255 t249 (wrap64 (x8_2 + 1)))) else (none)) else (none)) = some (r1, r2) := by first | (rw [hji22] at H;exact H) | (simp only [hji22] at H ⊢;exact H)
        have hji22w : (IntKind.i64.wrap (((rd_L2 t249 x8_2).length : Int) - 1)) = ji22 := (i64_w _).trans hji22
        by_cases c23 : 0 ≤ (ji22)
        ·rw [if_pos c23] at H
         have c23b0 : decide (0 ≤ (ji22)) = true := decide_eq_true c23
         clear c23
         by_cases c24 : (ji22) < ((rd_L2 t249 x8_2).length : Int)
         ·rw [if_pos c24] at H
          have c24b0 : decide ((ji22) < ((rd_L2 t249 x8_2).length : Int)) = true := decide_eq_true c24
          clear c24
          replace H := Option.bind_eq_some_iff.mp H
          obtain ⟨t255, A250, H⟩ := H
          replace H : (spec_ReversedSet.l0 k2 t255 t249 (wrap64 (x8_2 + 1))) = some (r1, r2) := H
          have A25 := Aside0.mk A250
          clear A250
          have H' := Aside0.mk H
          clear H
          obtain ⟨Ao26, co26, eo26⟩ := Kd.S_slice HO_7.out
          subst eo26
          try go_wp2
          have n0_ := Aside0.mk (Kd.R_drew HO_6.out)
          have n1_ := Aside0.mk (Kd.S_drew HO_7.out)
          have n2_ := Aside0.mk (blk_drew BK243.out)
          have n3_ := Aside0.mk (below_drew1 HB.out)
          clear HO_6
          clear HO_7
          clear BK243
          clear HB
          have HO_6 := n0_
          have HO_7 := n1_
          have BK243 := n2_
          have HB := n3_
          clear n0_ n1_ n2_ n3_
          have p252 : 0 ≤ (x8_2 : Int) := oA
          have q252 : x8_2 < (t249.length : Int) := oA
          obtain ⟨ad252, A252_0, c252_0, e252, hx252_0, hl252_0, hi252_0⟩ := at_L2 (Kd.S_reads' HO_7.out).2.2 x8_2 p252 q252
          cases e252
          obtain ⟨ce252, hce252, hMe252, hcc252⟩ := Kd.S_get HO_7.out [] x8_2 p252 (by first | exact q252 | exact oA | (have e_ := (Kd.S_reads' HO_7.out).1;omega))
          obtain ⟨ve252_0, rfl, ge252_0⟩ := hMe252
          have hv252_0 := hcc252 0 _ rfl
          rw [Nat.add_zero, show ((Kd.slice 3 (Kd.int .i64))).sz = 1 from rfl, Nat.mul_one] at hv252_0
          replace hv252_0 := Option.some.inj (hv252_0.symm.trans hx252_0)
          rw [hv252_0] at ge252_0
          have HL252_0 := Aside0.mk (show Kd.R (Kd.int .i64) 3 _ _ _ _ (rd_L2 t249 x8_2) from ge252_0)
          clear hv252_0 ge252_0
          clear hcc252 hce252
          have HR252_0 := Aside0.mk hi252_0
          have HC252_0 := Aside0.mk hl252_0
          clear hi252_0 hl252_0
          replace p252 := eq_true p252
          replace q252 := eq_true q252
          have p253 : 0 ≤ (x8_2 : Int) := oA
          have q253 : x8_2 < (t249.length : Int) := oA
          obtain ⟨ad253, A253_0, c253_0, e253, hx253_0, hl253_0, hi253_0⟩ := at_L2 (Kd.S_reads' HO_7.out).2.2 x8_2 p253 q253
          obtain rfl : ad252 = ad253 := (by injection e253)
          obtain ⟨ce253, hce253, hMe253, hcc253⟩ := Kd.S_get HO_7.out [] x8_2 p253 (by first | exact q253 | exact oA | (have e_ := (Kd.S_reads' HO_7.out).1;omega))
          obtain ⟨ve253_0, rfl, ge253_0⟩ := hMe253
          have hv253_0 := hcc253 0 _ rfl
          rw [Nat.add_zero, show ((Kd.slice 3 (Kd.int .i64))).sz = 1 from rfl, Nat.mul_one] at hv253_0
          replace hv253_0 := Option.some.inj (hv253_0.symm.trans hx253_0)
          rw [hv253_0] at ge253_0
          have HL253_0 := Aside0.mk (show Kd.R (Kd.int .i64) 3 _ _ _ _ (rd_L2 t249 x8_2) from ge253_0)
          clear hv253_0 ge253_0
          clear hcc253 hce253
          have HR253_0 := Aside0.mk hi253_0
          have HC253_0 := Aside0.mk hl253_0
          clear hi253_0 hl253_0
          replace p253 := eq_true p253
          replace q253 := eq_true q253
          have ea_ := Option.some.inj (hx252_0.symm.trans hx253_0)
          injection ea_ with ea_ en_ ec_
          subst ea_
          subst ec_
          clear en_
          have p254 : 0 ≤ ((ji22) : Int) := oA
          have q254 : (ji22) < ((rd_L2 t249 x8_2).length : Int) := oA
          obtain ⟨ad254, e254, hx254_0⟩ := Kd.at_int (by repeat (first | (with_reducible exact HR252_0.out) | (with_reducible refine Kd.C_alloc ?_ _) | (with_reducible refine Kd.C_drewN ?_ _) | (with_reducible refine Kd.C_drew ?_) | exact HR252_0.out)) (ji22) p254 q254
          cases e254
          replace p254 := eq_true p254
          replace q254 := eq_true q254
          obtain ⟨Ao28, co28, eo28⟩ := Kd.R_slice HO_6.out
          (first | subst eo28 | (injection eo28 with f1_ f2_ f3_;have f4_ := f1_.symm;have f5_ := f3_.symm;clear f1_ f2_ f3_;subst f4_;subst f5_))
          refine start_ (n := 15) (S := fun w' => w'.cell? (ad252.add (x8_2).toNat) = some (.slice (some ad254) (rd_L2 t249 x8_2).length c252_0) ∧ w'.cell? (ad252.add (x8_2).toNat) = some (.slice (some ad254) (rd_L2 t249 x8_2).length c252_0) ∧ w'.cell? (ad254.add ((ji22)).toNat) = some (.int .i64 (rd (rd_L2 t249 x8_2) (ji22)))) (ds := []) #[false,false,false,false,false,false,false,false,false,false,false,false,false,false,false] (by kernel_rfl) rfl rfl ⟨hx252_0, hx253_0, hx254_0⟩ (fun hHeld => ?_);refine with_tabW spec_ReversedSet.tab8 spec_ReversedSet.bits8 (fun HT_ HW_ => ?_)
          generalize wr.drew = w27 at HO_6 HO_7 BK243 HB HL252_0 HL253_0 HR252_0 HR253_0 hx252_0 hx253_0 hx254_0 hHeld ⊢
          refine pure_ (i := 0) (N := some 30) (v := ?_) (a' := ?_) #[true,false,false,false,false,false,false,false,false,false,false,false,false,false,false] rfl rfl (any_of HT_.out (by kernel_rfl)) (fun _ _ _ h => h) (Or.inl ⟨by rfl, ?_⟩) ?_ ?_
          rotate_left
          ·intro w'
           go_simp
           with_reducible rfl
          rotate_left
          ·simp only [Act.put, List.setIfInBounds_toArray, List.set_cons_zero, List.set_cons_succ, i64_w, i32_w]
           rfl
          refine pure_ (i := 1) (N := some 31) (v := ?_) (a' := ?_) #[true,true,false,false,false,false,false,false,false,false,false,false,false,false,false] rfl rfl (any_of HT_.out (by kernel_rfl)) (fun _ _ _ h => h) (Or.inl ⟨by rfl, ?_⟩) ?_ ?_
          rotate_left
          ·intro w'
           go_simp
           with_reducible rfl
          rotate_left
          ·simp only [Act.put, List.setIfInBounds_toArray, List.set_cons_zero, List.set_cons_succ, i64_w, i32_w]
           rfl
          refine pure_ (i := 2) (N := some 32) (v := ?_) (a' := ?_) #[true,true,true,false,false,false,false,false,false,false,false,false,false,false,false] rfl rfl (any_of HT_.out (by kernel_rfl)) (fun _ _ _ h => h) (Or.inl ⟨by rfl, ?_⟩) ?_ ?_
          rotate_left
          ·intro w'
           go_simp
           with_reducible rfl
          rotate_left
          ·simp only [Act.put, List.setIfInBounds_toArray, List.set_cons_zero, List.set_cons_succ, i64_w, i32_w]
           rfl
          refine pure_ (i := 3) (N := some 33) (v := ?_) (a' := ?_) #[true,true,true,true,false,false,false,false,false,false,false,false,false,false,false] rfl rfl (any_of HT_.out (by kernel_rfl)) (fun _ _ _ h => h) (Or.inl ⟨by rfl, ?_⟩) ?_ ?_
          rotate_left
          ·intro w'
           go_simp
           with_reducible rfl
          rotate_left
          ·simp only [Act.put, List.setIfInBounds_toArray, List.set_cons_zero, List.set_cons_succ, i64_w, i32_w]
           rfl
          refine pure_ (i := 5) (N := some 35) (v := ?_) (a' := ?_) #[true,true,true,true,false,true,false,false,false,false,false,false,false,false,false] rfl rfl (any_of HT_.out (by kernel_rfl)) (fun _ _ _ h => h) (Or.inl ⟨by rfl, ?_⟩) ?_ ?_
          rotate_left
          ·intro w'
           go_simp
           with_reducible rfl
          rotate_left
          ·simp only [Act.put, List.setIfInBounds_toArray, List.set_cons_zero, List.set_cons_succ, i64_w, i32_w]
           rfl
          refine pure_ (i := 6) (N := some 36) (v := ?_) (a' := ?_) #[true,true,true,true,false,true,true,false,false,false,false,false,false,false,false] rfl rfl (any_of HT_.out (by kernel_rfl)) (fun _ _ _ h => h) (Or.inl ⟨by rfl, ?_⟩) ?_ ?_
          rotate_left
          ·intro w'
           go_simp
           with_reducible rfl
          rotate_left
          ·simp only [Act.put, List.setIfInBounds_toArray, List.set_cons_zero, List.set_cons_succ, i64_w, i32_w]
           rfl
          refine pure_ (i := 7) (N := some 37) (v := ?_) (a' := ?_) #[true,true,true,true,false,true,true,true,false,false,false,false,false,false,false] rfl rfl (any_of HT_.out (by kernel_rfl)) (fun _ _ _ h => h) (Or.inl ⟨by rfl, ?_⟩) ?_ ?_
          rotate_left
          ·intro w'
           go_simp
           with_reducible rfl
          rotate_left
          ·simp only [Act.put, List.setIfInBounds_toArray, List.set_cons_zero, List.set_cons_succ, i64_w, i32_w]
           rfl
          refine take_ (i := 4) (N := some 34) (v := ?_) (a' := ?_) #[true,true,true,true,true,true,true,true,false,false,false,false,false,false,false] rfl rfl (take_ofW HT_.out HW_.out (by kernel_rfl)) (fun _ _ _ h => h) (Or.inl ⟨by rfl, ?_⟩) hHeld ?_ ?_
          rotate_left
          ·rintro w' ⟨s0, s1, s2⟩
           go_simp
           with_reducible rfl
          rotate_left
          ·simp only [Act.put, List.setIfInBounds_toArray, List.set_cons_zero, List.set_cons_succ, i64_w, i32_w]
           rfl
          refine take_ (i := 8) (N := some 38) (v := ?_) (a' := ?_) #[true,true,true,true,true,true,true,true,true,false,false,false,false,false,false] rfl rfl (take_ofW HT_.out HW_.out (by kernel_rfl)) (fun _ _ _ h => h) (Or.inl ⟨by rfl, ?_⟩) hHeld ?_ ?_
          rotate_left
          ·rintro w' ⟨s0, s1, s2⟩
           go_simp
           with_reducible rfl
          rotate_left
          ·simp only [Act.put, List.setIfInBounds_toArray, List.set_cons_zero, List.set_cons_succ, i64_w, i32_w]
           rfl
          refine pure_ (i := 9) (N := some 39) (v := ?_) (a' := ?_) #[true,true,true,true,true,true,true,true,true,true,false,false,false,false,false] rfl rfl (any_of HT_.out (by kernel_rfl)) (fun _ _ _ h => h) (Or.inl ⟨by rfl, ?_⟩) ?_ ?_
          rotate_left
          ·intro w'
           go_simp
           with_reducible rfl
          rotate_left
          ·simp only [Act.put, List.setIfInBounds_toArray, List.set_cons_zero, List.set_cons_succ, i64_w, i32_w]
           rfl
          refine pure_ (i := 10) (N := some 40) (v := ?_) (a' := ?_) #[true,true,true,true,true,true,true,true,true,true,true,false,false,false,false] rfl rfl (any_of HT_.out (by kernel_rfl)) (fun _ _ _ h => h) (Or.inl ⟨by rfl, ?_⟩) ?_ ?_
          rotate_left
          ·intro w'
           go_simp
           with_reducible rfl
          rotate_left
          ·simp only [Act.put, List.setIfInBounds_toArray, List.set_cons_zero, List.set_cons_succ, i64_w, i32_w]
           rfl
          refine pure_ (i := 11) (N := some 41) (v := ?_) (a' := ?_) #[true,true,true,true,true,true,true,true,true,true,true,true,false,false,false] rfl rfl (any_of HT_.out (by kernel_rfl)) (fun _ _ _ h => h) (Or.inl ⟨by rfl, ?_⟩) ?_ ?_
          rotate_left
          ·intro w'
           go_simp
           with_reducible rfl
          rotate_left
          ·simp only [Act.put, List.setIfInBounds_toArray, List.set_cons_zero, List.set_cons_succ, i64_w, i32_w]
           rfl
          refine take_ (i := 12) (N := some 42) (v := ?_) (a' := ?_) #[true,true,true,true,true,true,true,true,true,true,true,true,true,false,false] rfl rfl (take_ofW HT_.out HW_.out (by kernel_rfl)) (fun _ _ _ h => h) (Or.inl ⟨by rfl, ?_⟩) hHeld ?_ ?_
          rotate_left
          ·rintro w' ⟨s0, s1, s2⟩
           go_simp
           with_reducible rfl
          rotate_left
          ·simp only [Act.put, List.setIfInBounds_toArray, List.set_cons_zero, List.set_cons_succ, i64_w, i32_w]
           rfl
          refine one_ (i := 13) (N := some 43) #[true,true,true,true,true,true,true,true,true,true,true,true,true,true,false] rfl rfl (one_of HT_.out (by kernel_rfl)) (by decide) (fun K hK => ?_)
          refine goes_ Tryd.func61 (by kernel_rfl) rfl #[.slice Ao28 x6_2.length co28, .int .i64 (rd (rd_L2 t249 x8_2) (ji22))] (by rfl) rfl rfl (by (try simp only [List.map_toArray, List.map_cons, List.map_nil]);first | done | (simp only [hji22];rfl) | rfl | (simp only [List.length_drop, List.length_take];rfl)) ?_
          with_reducible refine (spec_l1Put.calls (fun k_ => some k_ = (.slice Ao28 x6_2.length co28 : Value).ownBlock) (.slice Ao28 x6_2.length co28) x6_2 (rd (rd_L2 t249 x8_2) (ji22)) t255 w _ ?side1 ?side2 A25.out).mono ?_
          (case side1 => exact bB)
          (case side2 => exact Kd.R_tight rfl HO_6.out)
          rintro e w29 ⟨v256, rfl, ho0, hb, hkp⟩
          have HS0_ := cell_kept (hHeld.1) hkp (by first | (rw [add_block];exact (fun hs_ => (((Kd.S_R HO_7.out).1 _ rfl)) hs_)) | (show ¬ _;simp only [add_block];exact (fun hs_ => (((Kd.S_R HO_7.out).1 _ rfl)) hs_)) | exact (fun hs_ => (((Kd.S_R HO_7.out).1 _ rfl)) hs_))
          have HS1_ := cell_kept (hHeld.2.1) hkp (by first | (rw [add_block];exact (fun hs_ => (((Kd.S_R HO_7.out).1 _ rfl)) hs_)) | (show ¬ _;simp only [add_block];exact (fun hs_ => (((Kd.S_R HO_7.out).1 _ rfl)) hs_)) | exact (fun hs_ => (((Kd.S_R HO_7.out).1 _ rfl)) hs_))
          have HS2_ := cell_kept (hHeld.2.2) hkp (by first | (rw [add_block];exact (fun hs_ => (((HL252_0.out).1 _ rfl).1) hs_)) | (show ¬ _;simp only [add_block];exact (fun hs_ => (((HL252_0.out).1 _ rfl).1) hs_)) | exact (fun hs_ => (((HL252_0.out).1 _ rfl).1) hs_))
          refine ⟨_, rfl, ?_⟩
          have n0_ := Aside0.mk (Kd.S_mono (ok' := fun k_ => some k_ ≠ (v256 : Value).ownBlock) (Kd.S_keptB (HO_7.out) hkp (fun k_ hk_ hs_ => (hk_) hs_)) (fun k_ hk_ => fun e_ => Or.elim (ho0.1 k_ e_.symm) (fun hs_ => hk_.2.1 hs_) (fun hn_ => Nat.not_le.2 hk_.2.2 hn_)))
          have n1_ := Aside0.mk (blk_kept (by exact kP BK243.out) hkp (fun hs_ => (fun e_ => (Kd.R_ne HO_6.out BK243.out (by decide)) e_) hs_))
          have n2_ := Aside0.mk (Kd.R_mono (ok' := fun k_ => True) ho0 (fun k_ hk_ => trivial))
          have n3_ := Aside0.mk (hb)
          clear HO_7
          clear BK243
          clear HB
          clear HO_6
          clear HL252_0
          clear HL253_0
          have HO_7 := n0_
          have BK243 := n1_
          have HO257 := n2_
          have HB := n3_
          clear n0_ n1_ n2_ n3_
          (try clear hb)
          (try clear hkp)
          (try clear ho0)
          refine hK.out _ _ ⟨HS0_, HS1_, HS2_⟩ (fun hHeld => ?_)
          clear hK K
          refine norm_ (a' := ?_) ?_ ?_
          rotate_left
          ·show Act.put _ (some 43) _ = _
           simp only [Act.put, List.setIfInBounds_toArray, List.set_cons_zero, List.set_cons_succ, i64_w, i32_w]
           rfl
          refine pure_ (i := 14) (N := some 6) (v := ?_) (a' := ?_) #[true,true,true,true,true,true,true,true,true,true,true,true,true,true,true] rfl rfl (any_of HT_.out (by kernel_rfl)) (fun _ _ _ h => h) (Or.inl ⟨by rfl, ?_⟩) ?_ ?_
          rotate_left
          ·intro w'
           go_simp
           with_reducible rfl
          rotate_left
          ·simp only [Act.put, List.setIfInBounds_toArray, List.set_cons_zero, List.set_cons_succ, i64_w, i32_w]
           rfl
          refine done_ (done_of HT_.out (by kernel_rfl)) ?_
          try go_wp2
          go_roundg k2
          case measure => have := HJ2.out;have := HK2.out;omega
          case rel => exact ⟨(t255), (wrap64 (x8_2 + 1)), (by first | rfl | (simp;done) | (simp [*];done)), H', ⟨by have := HJ2.out;have := HK2.out;omega⟩, ⟨by exact rP HO257.out⟩, ⟨by (with_reducible repeat (first | apply Kd.S_alloc | apply Kd.S_drewN | apply Kd.S_drew));exact HO_7.out⟩, ⟨by exact kP BK243.out⟩, ⟨by exact bB⟩⟩
         ·rw [if_neg c24] at H
          exact absurd H (by simp)
        ·rw [if_neg c23] at H
         exact absurd H (by simp)
       ·rw [if_neg c21] at H
        exact absurd H (by simp)
      ·rw [if_neg c20] at H
       have c20b0 : decide (x8_2 < (t249.length : Int)) = false := decide_eq_false c20
       clear c20
       simp only [Option.some.injEq, Prod.mk.injEq] at H
       obtain ⟨rfl, rfl⟩ := H
       obtain ⟨Ao30, co30, eo30⟩ := Kd.S_slice HO_7.out
       subst eo30
       go_wp2
       go_ret2
       exact ⟨_, by first | rfl | (simp [errW_none, errW_some] <;> rfl) | (simp [*, errW_none, errW_some] <;> rfl), by exact rP HO_6.out, by exact bB⟩


end Go.Proofs.YthbjajppdomhhaaDoor.QReversedSet
