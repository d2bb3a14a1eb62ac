import Derived.Test.YtaddgielnfhhpaaQBurningNumber0
import Derived.Test.YtaddgielnfhhpaaQBurningNumber1
import Derived.Test.YtaddgielnfhhpaaQBurningNumber9
import Derived.Test.YtaddgielnfhhpaaQBurningNumber12
namespace Go.Proofs.Ytaddgielnfhhpaa.QBurningNumber
open Go.RowKit Go.Proofs.YtaddgielnfhhpaaW.PrintWords Go.Proofs.YtaddgielnfhhpaaW.PrintLast Go.Proofs.YtaddgielnfhhpaaW.PrintMore
attribute [local go_sem] max2_int min2_int max_two min_two max_three min_three max_four min_four   -- for this text's walks alone
set_option linter.unusedVariables false
set_option linter.unusedSimpArgs false
/-! ### laws_FnExactBurningNumber: function 4 -/
def laws_FnExactBurningNumber.j0 : Nat → Bool → Int → List (S80) → Int → List (S80) → Option (Bool)
 | 0, _, _, _, _, _ => none
 | k + 1, x34, x356000, x356001, x368000, x368001 => if x34 = true then (some false) else ((laws_toGraph.f k x356000 x356001).bind fun bt370 => ((laws_eqGraph.f k x368000 x368001 bt370.1 bt370.2).bind fun t374 => (if t374 = true then (some true) else (some false))))
def laws_FnExactBurningNumber.f (k : Nat) (a0_0 : Int) (l0_1 : List (S80)) : Option (Bool) := (laws_szGraph.f a0_0 l0_1 1048576).bind fun t356 => (if t356 < 0 then (some true) else ((laws_toGraph.f k a0_0 l0_1).bind fun bt357 => ((spec_BurningNumber.f k bt357.1 bt357.2).bind fun bt361 => ((laws_toGraph.f k a0_0 l0_1).bind fun bt363 => ((impl_BurningNumber.f k bt363.1 bt363.2).bind fun bt368 => (if bt368.1 = bt361.1 then (laws_FnExactBurningNumber.j0 k (bt368.2 != bt361.2) a0_0 l0_1 bt363.1 bt363.2) else (laws_FnExactBurningNumber.j0 k true a0_0 l0_1 bt363.1 bt363.2)))))))
theorem laws_FnExactBurningNumber.mono_l : ∀ k, (∀ y0 y1 y2 y3 y4, LeO (laws_FnExactBurningNumber.j0 k y0 y1 y2 y3 y4) (laws_FnExactBurningNumber.j0 (k + 1) y0 y1 y2 y3 y4))
 | 0 => fun _ _ _ _ _ r h => by simp [laws_FnExactBurningNumber.j0] at h
 | k + 1 => by
  have ih0 := laws_FnExactBurningNumber.mono_l k
  ·intro y0 y1 y2 y3 y4
   unfold laws_FnExactBurningNumber.j0
   repeat' first
   | (with_reducible exact ih0 _ _ _ _ _)
   | (with_reducible exact impl_BurningNumber.mono _ _ _)
   | (with_reducible exact laws_eqGraph.mono _ _ _ _ _)
   | (with_reducible exact laws_toGraph.mono _ _ _)
   | (with_reducible exact spec_BurningNumber.mono _ _ _)
   | (with_reducible exact LeO.refl _)
   | (with_reducible exact LeO.none _)
   | (with_reducible refine LeO.ite ?_ ?_)
   | (with_reducible refine LeO.bind ?_ (fun _ => ?_))
   | exact ih0 _ _ _ _ _
   | exact impl_BurningNumber.mono _ _ _
   | exact laws_eqGraph.mono _ _ _ _ _
   | exact laws_toGraph.mono _ _ _
   | exact spec_BurningNumber.mono _ _ _
   | exact LeO.none _
   | refine LeO.ite ?_ ?_
   | refine LeO.bind ?_ (fun _ => ?_)
theorem laws_FnExactBurningNumber.mono : ∀ a0 a1 k, LeO (laws_FnExactBurningNumber.f k a0 a1) (laws_FnExactBurningNumber.f (k + 1) a0 a1) := by
 intro a0 a1 k
 have ih0 := laws_FnExactBurningNumber.mono_l k
 unfold laws_FnExactBurningNumber.f
 repeat' first
   | (with_reducible exact ih0 _ _ _ _ _)
   | (with_reducible exact impl_BurningNumber.mono _ _ _)
   | (with_reducible exact laws_eqGraph.mono _ _ _ _ _)
   | (with_reducible exact laws_toGraph.mono _ _ _)
   | (with_reducible exact spec_BurningNumber.mono _ _ _)
   | (with_reducible exact LeO.refl _)
   | (with_reducible exact LeO.none _)
   | (with_reducible refine LeO.ite ?_ ?_)
   | (with_reducible refine LeO.bind ?_ (fun _ => ?_))
   | exact ih0 _ _ _ _ _
   | exact impl_BurningNumber.mono _ _ _
   | exact laws_eqGraph.mono _ _ _ _ _
   | exact laws_toGraph.mono _ _ _
   | exact spec_BurningNumber.mono _ _ _
   | exact LeO.none _
   | refine LeO.ite ?_ ?_
   | refine LeO.bind ?_ (fun _ => ?_)
set_option maxHeartbeats 8000000 in
set_option maxRecDepth 100000 in
theorem laws_FnExactBurningNumber.calls (k : Nat) (a0_0 : Int) (A0_1 : Option Addr) (c0_1 : Nat) (l0_1 : List (S80)) (r : Bool) (w : World) (hr0_1 : Kd.C k80 w A0_1 l0_1.length l0_1) (hc0_1 : l0_1.length ≤ c0_1) (h : laws_FnExactBurningNumber.f k a0_0 l0_1 = some r) :
  Calls Try.prog 4 #[.agg #[.int .i64 a0_0, .slice A0_1 l0_1.length c0_1]] w fun e w' => e = .returned (.bool r) ∧ Below w.heap.size w w' := by
 have hu24 := Try.underlying24
 have hu29 := Try.underlying29
 have HR0_1 := Aside0.mk hr0_1
 have HC0_1 := Aside0.mk hc0_1
 clear hr0_1 hc0_1
 have HB := Aside0.mk (Below.refl w.heap.size w)
 have H : ((laws_szGraph.f a0_0 l0_1 1048576).bind fun t356 => (if t356 < 0 then (some true) else ((laws_toGraph.f k a0_0 l0_1).bind fun bt357 => ((spec_BurningNumber.f k bt357.1 bt357.2).bind fun bt361 => ((laws_toGraph.f k a0_0 l0_1).bind fun bt363 => ((impl_BurningNumber.f k bt363.1 bt363.2).bind fun bt368 => (if bt368.1 = bt361.1 then (laws_FnExactBurningNumber.j0 k (bt368.2 != bt361.2) a0_0 l0_1 bt363.1 bt363.2) else (laws_FnExactBurningNumber.j0 k true a0_0 l0_1 bt363.1 bt363.2)))))))) = some r := h
 clear h
 replace H := Option.bind_eq_some_iff.mp H
 obtain ⟨t356, A20, H⟩ := H
 replace H : (if t356 < 0 then (some true) else ((laws_toGraph.f k a0_0 l0_1).bind fun bt357 => ((spec_BurningNumber.f k bt357.1 bt357.2).bind fun bt361 => ((laws_toGraph.f k a0_0 l0_1).bind fun bt363 => ((impl_BurningNumber.f k bt363.1 bt363.2).bind fun bt368 => (if bt368.1 = bt361.1 then (laws_FnExactBurningNumber.j0 k (bt368.2 != bt361.2) a0_0 l0_1 bt363.1 bt363.2) else (laws_FnExactBurningNumber.j0 k true a0_0 l0_1 bt363.1 bt363.2))))))) = some r := H
 have A2 := Aside0.mk A20
 clear A20
 by_cases c3 : t356 < 0
 ·rw [if_pos c3] at H
  have c3b0 : decide (t356 < 0) = true := decide_eq_true c3
  clear c3
  obtain rfl := Option.some.inj H
  go_enter Try.func4, Try.ntmps4
  go_wp2_with (first | ((with_reducible refine gate_dst (N := 1) rfl ?_);refine box_event ?hg (N := 1) ?hd (cs := #[.int .i64 a0_0, .slice A0_1 l0_1.length c0_1]) (t := 24) ?hr ?_;(case hd => rfl);(case hg => rfl);(case hr => first | (go_simp;done) | (go_simp;rfl));intro gb355 hg w4 hbox hb;have n0_ := Aside0.mk (below_step (by exact bB) hb);have n1_ := Aside0.mk (hbox);have n2_ := Aside0.mk ((by rw [hg];exact (below_size (by exact bB)) : w.heap.size ≤ gb355));have n3_ := Aside0.mk ((by rw [hg];exact (below_size (by exact bB)) : w.heap.size ≤ gb355));clear HB;have HB := n0_;have BK355 := n1_;have GW355 := n2_;have GE355 := n3_;clear n0_ n1_ n2_ n3_;clear hb hbox hg;have hcz5_0 : w4.cell? ⟨gb355, 0, none⟩ = some (.int .i64 a0_0) := (blk_cell BK355.out 0).trans rfl;have hcz5_1 : w4.cell? ⟨gb355, 1, none⟩ = some (.slice A0_1 l0_1.length c0_1) := (blk_cell BK355.out 1).trans rfl;have hfz5_0 := blk_frozen BK355.out 0;have hfz5_1 := blk_frozen BK355.out 1) | ((with_reducible refine gate_callee (f := 9) rfl ?_);refine goesL_ (some 11) rfl rfl Try.func9 (by kernel_rfl) rfl #[.agg #[.int .i64 a0_0, .slice A0_1 l0_1.length c0_1], .int .i64 1048576] rfl mM ?_;(with_reducible refine (laws_szGraph.calls a0_0 _ _ l0_1 1048576 t356 _ ?side1 ?side2 A2.out).mono ?_);(case side1 => exact cP (Kd.C_below HR0_1.out HB.out));(case side2 => exact HC0_1.out);rintro e w6 ⟨rfl, hb⟩;refine ⟨_, rfl, ?_⟩;have n0_ := Aside0.mk (blk_below (g := gb355) (o := .cells #[.int .i64 a0_0, .slice A0_1 l0_1.length c0_1] 24 (0, 0)) (by exact kP BK355.out) hb);have n1_ := Aside0.mk (below_step (by exact bB) hb);clear BK355;clear HB;have BK355 := n0_;have HB := n1_;clear n0_ n1_;(try clear hb);(try clear hb2);(try clear hk);(try clear hi)))
  go_ret
  exact ⟨by first | rfl | (simp [errW_none, errW_some] <;> rfl) | (simp [*, errW_none, errW_some] <;> rfl), by exact bB⟩
 ·rw [if_neg c3] at H
  have c3b0 : decide (t356 < 0) = false := decide_eq_false c3
  clear c3
  replace H := Option.bind_eq_some_iff.mp H
  obtain ⟨⟨t357, t358⟩, A70, H⟩ := H
  replace H : ((spec_BurningNumber.f k t357 t358).bind fun bt361 => ((laws_toGraph.f k a0_0 l0_1).bind fun bt363 => ((impl_BurningNumber.f k bt363.1 bt363.2).bind fun bt368 => (if bt368.1 = bt361.1 then (laws_FnExactBurningNumber.j0 k (bt368.2 != bt361.2) a0_0 l0_1 bt363.1 bt363.2) else (laws_FnExactBurningNumber.j0 k true a0_0 l0_1 bt363.1 bt363.2))))) = some r := H
  have A7 := Aside0.mk A70
  clear A70
  replace H := Option.bind_eq_some_iff.mp H
  obtain ⟨⟨t361, t362⟩, A80, H⟩ := H
  replace H : ((laws_toGraph.f k a0_0 l0_1).bind fun bt363 => ((impl_BurningNumber.f k bt363.1 bt363.2).bind fun bt368 => (if bt368.1 = t361 then (laws_FnExactBurningNumber.j0 k (bt368.2 != t362) a0_0 l0_1 bt363.1 bt363.2) else (laws_FnExactBurningNumber.j0 k true a0_0 l0_1 bt363.1 bt363.2)))) = some r := H
  have A8 := Aside0.mk A80
  clear A80
  replace H := Option.bind_eq_some_iff.mp H
  obtain ⟨⟨t363, t364⟩, A90, H⟩ := H
  replace H : ((impl_BurningNumber.f k t363 t364).bind fun bt368 => (if bt368.1 = t361 then (laws_FnExactBurningNumber.j0 k (bt368.2 != t362) a0_0 l0_1 t363 t364) else (laws_FnExactBurningNumber.j0 k true a0_0 l0_1 t363 t364))) = some r := H
  have A9 := Aside0.mk A90
  clear A90
  replace H := Option.bind_eq_some_iff.mp H
  obtain ⟨⟨t368, t369⟩, A100, H⟩ := H
  replace H : (if t368 = t361 then (laws_FnExactBurningNumber.j0 k (t369 != t362) a0_0 l0_1 t363 t364) else (laws_FnExactBurningNumber.j0 k true a0_0 l0_1 t363 t364)) = some r := H
  have A10 := Aside0.mk A100
  clear A100
  have HC11 := Aside0.mk H
  clear H
  go_enter Try.func4, Try.ntmps4
  go_upto_region 8 with (first | ((with_reducible refine gate_dst (N := 1) rfl ?_);refine box_event ?hg (N := 1) ?hd (cs := #[.int .i64 a0_0, .slice A0_1 l0_1.length c0_1]) (t := 24) ?hr ?_;(case hd => rfl);(case hg => rfl);(case hr => first | (go_simp;done) | (go_simp;rfl));intro gb355 hg w12 hbox hb;have n0_ := Aside0.mk (below_step (by exact bB) hb);have n1_ := Aside0.mk (hbox);have n2_ := Aside0.mk ((by rw [hg];exact (below_size (by exact bB)) : w.heap.size ≤ gb355));have n3_ := Aside0.mk ((by rw [hg];exact (below_size (by exact bB)) : w.heap.size ≤ gb355));clear HB;have HB := n0_;have BK355 := n1_;have GW355 := n2_;have GE355 := n3_;clear n0_ n1_ n2_ n3_;clear hb hbox hg;have hcz13_0 : w12.cell? ⟨gb355, 0, none⟩ = some (.int .i64 a0_0) := (blk_cell BK355.out 0).trans rfl;have hcz13_1 : w12.cell? ⟨gb355, 1, none⟩ = some (.slice A0_1 l0_1.length c0_1) := (blk_cell BK355.out 1).trans rfl;have hfz13_0 := blk_frozen BK355.out 0;have hfz13_1 := blk_frozen BK355.out 1) | ((with_reducible refine gate_callee (f := 9) rfl ?_);refine goesL_ (some 11) rfl rfl Try.func9 (by kernel_rfl) rfl #[.agg #[.int .i64 a0_0, .slice A0_1 l0_1.length c0_1], .int .i64 1048576] rfl mM ?_;(with_reducible refine (laws_szGraph.calls a0_0 _ _ l0_1 1048576 t356 _ ?side1 ?side2 A2.out).mono ?_);(case side1 => exact cP (Kd.C_below HR0_1.out HB.out));(case side2 => exact HC0_1.out);rintro e w14 ⟨rfl, hb⟩;refine ⟨_, rfl, ?_⟩;have n0_ := Aside0.mk (blk_below (g := gb355) (o := .cells #[.int .i64 a0_0, .slice A0_1 l0_1.length c0_1] 24 (0, 0)) (by exact kP BK355.out) hb);have n1_ := Aside0.mk (below_step (by exact bB) hb);clear BK355;clear HB;have BK355 := n0_;have HB := n1_;clear n0_ n1_;(try clear hb);(try clear hb2);(try clear hk);(try clear hi);have hcz15_0 : w14.cell? ⟨gb355, 0, none⟩ = some (.int .i64 a0_0) := (blk_cell BK355.out 0).trans rfl;have hcz15_1 : w14.cell? ⟨gb355, 1, none⟩ = some (.slice A0_1 l0_1.length c0_1) := (blk_cell BK355.out 1).trans rfl;have hfz15_0 := blk_frozen BK355.out 0;have hfz15_1 := blk_frozen BK355.out 1) | ((with_reducible refine gate_callee (f := 11) rfl ?_);refine goesL_ (some 16) rfl rfl Try.func11 (by kernel_rfl) rfl #[.agg #[.int .i64 a0_0, .slice A0_1 l0_1.length c0_1]] rfl mM ?_;(with_reducible refine (laws_toGraph.calls k a0_0 _ _ l0_1 t357 t358 _ ?side1 ?side2 A7.out).mono ?_);(case side1 => exact cP (Kd.C_below HR0_1.out HB.out));(case side2 => exact HC0_1.out);rintro e w16 ⟨v359, rfl, ho0, hb⟩;refine ⟨_, rfl, ?_⟩;have n0_ := Aside0.mk (Kd.R_lower ho0 (below_size (by exact bB)));have n1_ := Aside0.mk (blk_below (g := gb355) (o := .cells #[.int .i64 a0_0, .slice A0_1 l0_1.length c0_1] 24 (0, 0)) (by exact kP BK355.out) hb);have n2_ := Aside0.mk (below_step (by exact bB) hb);clear BK355;clear HB;have HO360 := n0_;have BK355 := n1_;have HB := n2_;clear n0_ n1_ n2_;(try clear hb);(try clear hb2);(try clear hk);(try clear hi);(try clear ho0);obtain ⟨Ao17, co17, eo17⟩ := Kd.R_slice HO360.out;subst eo17) | ((with_reducible refine gate_callee (f := 16) rfl ?_);refine goesL_ (some 17) rfl rfl Try.func16 (by kernel_rfl) rfl #[.agg #[.int .i64 t357, .slice Ao17 t358.length co17]] rfl mM ?_;(with_reducible refine (spec_BurningNumber.calls k t357 _ _ t358 t361 t362 _ ?side1 ?side2 A8.out).mono ?_);(case side1 => exact cP (Kd.R_reads' HO360.out).2.2);(case side2 => exact (Kd.R_reads' HO360.out).2.1);rintro e w18 ⟨rfl, hb⟩;refine ⟨_, rfl, ?_⟩;have n0_ := Aside0.mk (Kd.R_below (by exact rP HO360.out) hb);have n1_ := Aside0.mk (blk_below (g := gb355) (o := .cells #[.int .i64 a0_0, .slice A0_1 l0_1.length c0_1] 24 (0, 0)) (by exact kP BK355.out) hb);have n2_ := Aside0.mk (below_step (by exact bB) hb);clear HO360;clear BK355;clear HB;have HO360 := n0_;have BK355 := n1_;have HB := n2_;clear n0_ n1_ n2_;(try clear hb);(try clear hb2);(try clear hk);(try clear hi);have hcz19_0 : w18.cell? ⟨gb355, 0, none⟩ = some (.int .i64 a0_0) := (blk_cell BK355.out 0).trans rfl;have hcz19_1 : w18.cell? ⟨gb355, 1, none⟩ = some (.slice A0_1 l0_1.length c0_1) := (blk_cell BK355.out 1).trans rfl;have hfz19_0 := blk_frozen BK355.out 0;have hfz19_1 := blk_frozen BK355.out 1) | ((with_reducible refine gate_callee (f := 11) rfl ?_);refine goesL_ (some 21) rfl rfl Try.func11 (by kernel_rfl) rfl #[.agg #[.int .i64 a0_0, .slice A0_1 l0_1.length c0_1]] rfl mM ?_;(with_reducible refine (laws_toGraph.calls k a0_0 _ _ l0_1 t363 t364 _ ?side1 ?side2 A9.out).mono ?_);(case side1 => exact cP (Kd.C_below HR0_1.out HB.out));(case side2 => exact HC0_1.out);rintro e w20 ⟨v365, rfl, ho0, hb⟩;refine ⟨_, rfl, ?_⟩;have n0_ := Aside0.mk (Kd.R_elder' (by exact rP HO360.out) (Kd.R_base ho0) hb);have n1_ := Aside0.mk (Kd.R_lower (Kd.R_new' ho0 (Kd.R_lt (by exact rP HO360.out))) (below_size (by exact bB)));have n2_ := Aside0.mk (blk_below (g := gb355) (o := .cells #[.int .i64 a0_0, .slice A0_1 l0_1.length c0_1] 24 (0, 0)) (by exact kP BK355.out) hb);have n3_ := Aside0.mk (below_step (by exact bB) hb);clear HO360;clear BK355;clear HB;have HO360 := n0_;have HO366 := n1_;have BK355 := n2_;have HB := n3_;clear n0_ n1_ n2_ n3_;(try clear hb);(try clear hb2);(try clear hk);(try clear hi);(try clear ho0)) | ((with_reducible refine gate_dst (N := 6) rfl ?_);refine box_event ?hg (N := 6) ?hd (cs := #[.int .i64 0, .slice none 0 0]) (t := 29) ?hr ?_;(case hd => rfl);(case hg => rfl);(case hr => first | (go_simp;done) | (go_simp;rfl));intro gb367 hg w21 hbox hb;have n0_ := Aside0.mk (Kd.R_below (by exact rP HO360.out) hb);have n1_ := Aside0.mk (Kd.R_below (by exact rP HO366.out) hb);have n2_ := Aside0.mk (blk_below (g := gb355) (o := .cells #[.int .i64 a0_0, .slice A0_1 l0_1.length c0_1] 24 (0, 0)) (by exact kP BK355.out) hb);have n3_ := Aside0.mk (below_step (by exact bB) hb);have n4_ := Aside0.mk (hbox);have n5_ := Aside0.mk ((by rw [hg];exact (below_size (by exact bB)) : w.heap.size ≤ gb367));have n6_ := Aside0.mk ((by rw [hg];exact (below_size (by exact bB)) : w.heap.size ≤ gb367));have n7_ := Aside0.mk ((by rw [hg];exact Nat.ne_of_lt (blk_lt (g := gb355) (o := .cells #[.int .i64 a0_0, .slice A0_1 l0_1.length c0_1] 24 (0, 0)) (by exact kP BK355.out)) : gb355 ≠ gb367));have n8_ := Aside0.mk ((by rw [hg];exact Nat.ne_of_gt (blk_lt (g := gb355) (o := .cells #[.int .i64 a0_0, .slice A0_1 l0_1.length c0_1] 24 (0, 0)) (by exact kP BK355.out)) : gb367 ≠ gb355));clear HO360;clear HO366;clear BK355;clear HB;have HO360 := n0_;have HO366 := n1_;have BK355 := n2_;have HB := n3_;have BK367 := n4_;have GW367 := n5_;have GE367 := n6_;have NB355_367 := n7_;have NB367_355 := n8_;clear n0_ n1_ n2_ n3_ n4_ n5_ n6_ n7_ n8_;clear hb hbox hg;have hnb22 := NB367_355.out;have hnc22 := NB355_367.out;have hcz23_0 : w21.cell? ⟨gb367, 0, none⟩ = some (.int .i64 0) := (blk_cell BK367.out 0).trans rfl;have hcz23_1 : w21.cell? ⟨gb367, 1, none⟩ = some (.slice none 0 0) := (blk_cell BK367.out 1).trans rfl;have hfz23_0 := blk_frozen BK367.out 0;have hfz23_1 := blk_frozen BK367.out 1;obtain ⟨Ao24, co24, eo24⟩ := Kd.R_slice HO366.out;subst eo24) | ((with_reducible refine gate_callee (f := 17) rfl ?_);refine goesL_ (some 24) rfl rfl Try.func17 (by kernel_rfl) rfl #[.agg #[.int .i64 t363, .slice Ao24 t364.length co24]] rfl mM ?_;(with_reducible refine (impl_BurningNumber.calls k t363 _ _ t364 t368 t369 _ ?side1 ?side2 A10.out).mono ?_);(case side1 => refine (Kd.R_reads' (e := 80) (base := w.heap.size) (ok := fun k_ => (True ∧ some k_ ≠ (.slice Ao17 t358.length co17 : Value).ownBlock)) (n := t364.length) (c := co24) ?_).2.2;exact (by refine rP ?_;exact (Kd.R_mono (Kd.R_far (p := ⟨gb367, 1, none⟩) (Kd.R_far (p := ⟨gb367, 0, none⟩) (Kd.R_types HO366.out BK367.out (by decide)) (fun _ hk => hk.2) (.int .i64 t363)) (fun _ hk => hk.2) (.slice Ao24 t364.length co24)) (fun _ h_ => h_.1))));(case side2 => exact (Kd.R_reads' HO366.out).2.1);rintro e w25 ⟨rfl, hb⟩;refine ⟨_, rfl, ?_⟩;have n0_ := Aside0.mk (Kd.R_below (by exact rP ((Kd.R_mono (Kd.R_far (p := ⟨gb367, 1, none⟩) (Kd.R_far (p := ⟨gb367, 0, none⟩) (Kd.R_types HO360.out BK367.out (by decide)) (fun _ hk => hk.2) (.int .i64 t363)) (fun _ hk => hk.2) (.slice Ao24 t364.length co24)) (fun _ h_ => h_.1)))) hb);have n1_ := Aside0.mk (Kd.R_below (by exact rP ((Kd.R_mono (Kd.R_far (p := ⟨gb367, 1, none⟩) (Kd.R_far (p := ⟨gb367, 0, none⟩) (Kd.R_types HO366.out BK367.out (by decide)) (fun _ hk => hk.2) (.int .i64 t363)) (fun _ hk => hk.2) (.slice Ao24 t364.length co24)) (fun _ h_ => h_.1)))) hb);have n2_ := Aside0.mk (blk_below (g := gb355) (o := .cells #[.int .i64 a0_0, .slice A0_1 l0_1.length c0_1] 24 (0, 0)) (by refine kP ?_;refine blk_far ?_ NB355_367.out _;refine kP ?_;refine blk_far ?_ NB355_367.out _;exact kP BK355.out) hb);have n3_ := Aside0.mk (blk_below (g := gb367) (o := .cells #[.int .i64 t363, .slice Ao24 t364.length co24] 29 (0, 0)) (by refine kP ?_;refine blk_put (cs := #[.int .i64 t363, .slice none 0 0]) ?_ 1 _ rfl;refine kP ?_;refine blk_put (cs := #[.int .i64 0, .slice none 0 0]) ?_ 0 _ rfl;exact kP BK367.out) hb);have n4_ := Aside0.mk (below_step (by exact bB) hb);clear HO360;clear HO366;clear BK355;clear BK367;clear HB;have HO360 := n0_;have HO366 := n1_;have BK355 := n2_;have BK367 := n3_;have HB := n4_;clear n0_ n1_ n2_ n3_ n4_;(try clear hb);(try clear hb2);(try clear hk);(try clear hi)))
  (try simp only [Act.put, List.setIfInBounds_toArray, List.set_cons_zero, List.set_cons_succ])
  go_cut [34] (fun v34 wc => ∃ (kq : Nat) (x34_10 : Bool), v34 = .bool x34_10 ∧ Aside0 (laws_FnExactBurningNumber.j0 kq x34_10 a0_0 l0_1 t363 t364 = some r) ∧ Aside0 (kq ≤ k) ∧ Aside0 (Kd.R k80 80 wc w.heap.size (fun _ => True) (.slice Ao24 t364.length co24) t364) ∧ Aside0 (wc.heap[gb355]? = some (.cells #[.int .i64 a0_0, (.slice A0_1 l0_1.length c0_1)] 24 (0, 0))) ∧ Aside0 (wc.heap[gb367]? = some (.cells #[.int .i64 t363, (.slice Ao24 t364.length co24)] 29 (0, 0))) ∧ Aside0 (Below w.heap.size w wc))
  case first =>
   have H := HC11.out
   clear HC11
   by_cases c26 : t368 = t361
   ·rw [if_pos c26] at H
    have c26b0 : (t368 == t361) = true := beq_iff_eq.mpr c26
    have c26b1 : (t368 != t361) = false := bne_eq_false_iff_eq.mpr c26
    clear c26
    (first | rw [c26b0] | (simp only [i64_w, i32_w];rw [c26b0]) | skip)
    have H' := Aside0.mk H
    clear H
    go_wp2
    go_meet
    case rel => exact ⟨_, ((t369 != t362)), (by first | rfl | (simp;done) | (simp [*];done)), H', ⟨by first | omega | exact Nat.le_refl _⟩, ⟨by refine rP ?_;exact Kd.R_mono HO366.out (fun _ hk => trivial)⟩, ⟨by exact kP BK355.out⟩, ⟨by exact kP BK367.out⟩, ⟨by exact bB⟩⟩
   ·rw [if_neg c26] at H
    have c26b0 : (t368 == t361) = false := beq_eq_false_iff_ne.mpr c26
    have c26b1 : (t368 != t361) = true := bne_iff_ne.mpr c26
    (first | rw [c26b0] | (simp only [i64_w, i32_w];rw [c26b0]) | skip)
    have H' := Aside0.mk H
    clear H
    go_wp2
    go_meet
    case rel => exact ⟨_, (true), (by first | rfl | (simp;done) | (simp [*];done)), H', ⟨by first | omega | exact Nat.le_refl _⟩, ⟨by refine rP ?_;exact Kd.R_mono HO366.out (fun _ hk => trivial)⟩, ⟨by exact kP BK355.out⟩, ⟨by exact kP BK367.out⟩, ⟨by exact bB⟩⟩
  case rest =>
   clear HC11
   try clear c1
   try clear c2
   try clear p2
   try clear c3
   try clear c3b0
   try clear c4
   try clear c9
   try clear c11
   try clear c16
   try clear c17
   try clear c22
   try clear c26
   try clear c26b0
   try clear c26b1
   try clear hcz13_0
   try clear hcz13_1
   try clear hcz15_0
   try clear hcz15_1
   try clear hcz19_0
   try clear hcz19_1
   try clear hcz23_0
   try clear hcz23_1
   try clear hcz5_0
   try clear hcz5_1
   try clear hfz13_0
   try clear hfz13_1
   try clear hfz15_0
   try clear hfz15_1
   try clear hfz19_0
   try clear hfz19_1
   try clear hfz23_0
   try clear hfz23_1
   try clear hfz5_0
   try clear hfz5_1
   obtain ⟨kq, x34_10, rfl, HA, HJ10, HO_368001, BK355, BK367, HB⟩ := hcut
   cases kq with
   | zero => exact absurd HA.out (by simp [laws_FnExactBurningNumber.j0])
   | succ kj10 =>
    have H := HA.out
    clear HA
    simp only [laws_FnExactBurningNumber.j0] at H
    by_cases c27 : x34_10 = true
    ·subst c27
     have H1 : (some false) = some r := by rw [if_pos rfl] at H;exact H
     clear H
     have H := H1
     clear H1
     obtain rfl := Option.some.inj H
     go_wp2
     go_ret
     exact ⟨by first | rfl | (simp [errW_none, errW_some] <;> rfl) | (simp [*, errW_none, errW_some] <;> rfl), by exact bB⟩
    ·replace c27 := Bool.eq_false_iff.mpr c27
     subst c27
     have H1 : ((laws_toGraph.f kj10 a0_0 l0_1).bind fun bt370 => ((laws_eqGraph.f kj10 t363 t364 bt370.1 bt370.2).bind fun t374 => (if t374 = true then (some true) else (some false)))) = some r := by rw [if_neg (show ¬ (false = true) by decide)] at H;exact H
     clear H
     have H := H1
     clear H1
     replace H := Option.bind_eq_some_iff.mp H
     obtain ⟨⟨t370, t371⟩, A280, H⟩ := H
     replace H : ((laws_eqGraph.f kj10 t363 t364 t370 t371).bind fun t374 => (if t374 = true then (some true) else (some false))) = some r := H
     have A28 := Aside0.mk A280
     clear A280
     replace H := Option.bind_eq_some_iff.mp H
     obtain ⟨t374, A290, H⟩ := H
     replace H : (if t374 = true then (some true) else (some false)) = some r := H
     have A29 := Aside0.mk A290
     clear A290
     by_cases c30 : t374 = true
     ·subst c30
      have H1 : (some true) = some r := by rw [if_pos rfl] at H;exact H
      clear H
      have H := H1
      clear H1
      obtain rfl := Option.some.inj H
      try go_wp2
      have n0_ := Aside0.mk (Kd.R_drew HO_368001.out)
      have n1_ := Aside0.mk (blk_drew BK355.out)
      have n2_ := Aside0.mk (blk_drew BK367.out)
      have n3_ := Aside0.mk (below_drew1 HB.out)
      clear HO_368001
      clear BK355
      clear BK367
      clear HB
      have HO_368001 := n0_
      have BK355 := n1_
      have BK367 := n2_
      have HB := n3_
      clear n0_ n1_ n2_ n3_
      refine start_ (n := 5) (S := fun w' => w'.cell? ⟨gb367, 0, none⟩ = some (.int .i64 t363) ∧ w'.cell? ⟨gb367, 1, none⟩ = some (.slice Ao24 t364.length co24) ∧ w'.cell? ⟨gb355, 0, none⟩ = some (.int .i64 a0_0) ∧ w'.cell? ⟨gb355, 1, none⟩ = some (.slice A0_1 l0_1.length c0_1)) (ds := []) #[false,false,false,false,false] (by kernel_rfl) rfl rfl ⟨(blk_cell BK367.out 0).trans rfl, (blk_cell BK367.out 1).trans rfl, (blk_cell BK355.out 0).trans rfl, (blk_cell BK355.out 1).trans rfl⟩ (fun hHeld => ?_)
      generalize wc.drew = w31 at HO_368001 BK355 BK367 HB hHeld ⊢
      refine take_ (i := 0) (N := some 35) (v := ?_) (a' := ?_) #[true,false,false,false,false] rfl rfl (by kernel_rfl) (fun _ _ _ h => h) (Or.inl ⟨by rfl, ?_⟩) hHeld ?_ ?_
      rotate_left
      ·rintro w' ⟨s0, s1, s2, s3⟩
       go_simp
       with_reducible rfl
      rotate_left
      ·simp only [Act.put, List.setIfInBounds_toArray, List.set_cons_zero, List.set_cons_succ, i64_w, i32_w]
       rfl
      refine take_ (i := 1) (N := some 36) (v := ?_) (a' := ?_) #[true,true,false,false,false] rfl rfl (by kernel_rfl) (fun _ _ _ h => h) (Or.inl ⟨by rfl, ?_⟩) hHeld ?_ ?_
      rotate_left
      ·rintro w' ⟨s0, s1, s2, s3⟩
       go_simp
       with_reducible rfl
      rotate_left
      ·simp only [Act.put, List.setIfInBounds_toArray, List.set_cons_zero, List.set_cons_succ, i64_w, i32_w]
       rfl
      refine one_ (i := 2) (N := some 37) #[true,true,true,false,false] rfl rfl (by kernel_rfl) (by decide) (fun K hK => ?_)
      refine goes_ Try.func11 (by kernel_rfl) rfl #[.agg #[.int .i64 a0_0, .slice A0_1 l0_1.length c0_1]] (by rfl) rfl rfl mM ?_
      with_reducible refine (laws_toGraph.calls kj10 a0_0 _ _ l0_1 t370 t371 _ ?side1 ?side2 A28.out).mono ?_
      (case side1 => exact cP (Kd.C_below HR0_1.out HB.out))
      (case side2 => exact HC0_1.out)
      rintro e w32 ⟨v372, rfl, ho0, hb⟩
      refine ⟨_, rfl, ?_⟩
      have n0_ := Aside0.mk (Kd.R_elder' (by exact rP HO_368001.out) (Kd.R_base ho0) hb)
      have n1_ := Aside0.mk (Kd.R_lower (Kd.R_new' ho0 (Kd.R_lt (by exact rP HO_368001.out))) (below_size (by exact bB)))
      have n2_ := Aside0.mk (blk_below (g := gb355) (o := .cells #[.int .i64 a0_0, .slice A0_1 l0_1.length c0_1] 24 (0, 0)) (by exact kP BK355.out) hb)
      have n3_ := Aside0.mk (blk_below (g := gb367) (o := .cells #[.int .i64 t363, .slice Ao24 t364.length co24] 29 (0, 0)) (by exact kP BK367.out) hb)
      have n4_ := Aside0.mk (below_step (by exact bB) hb)
      clear HO_368001
      clear BK355
      clear BK367
      clear HB
      have HO_368001 := n0_
      have HO373 := n1_
      have BK355 := n2_
      have BK367 := n3_
      have HB := n4_
      clear n0_ n1_ n2_ n3_ n4_
      (try clear hb)
      (try clear hb2)
      (try clear hk)
      (try clear hi)
      (try clear ho0)
      obtain ⟨Ao33, co33, eo33⟩ := Kd.R_slice HO373.out
      (first | subst eo33 | (injection eo33 with f1_ f2_ f3_;have f4_ := f1_.symm;have f5_ := f3_.symm;clear f1_ f2_ f3_;subst f4_;subst f5_))
      refine hK.out _ _ ⟨(blk_cell BK367.out 0).trans rfl, (blk_cell BK367.out 1).trans rfl, (blk_cell BK355.out 0).trans rfl, (blk_cell BK355.out 1).trans rfl⟩ (fun hHeld => ?_)
      clear hK K
      refine norm_ (a' := ?_) ?_ ?_
      rotate_left
      ·show Act.put _ (some 37) _ = _
       simp only [Act.put, List.setIfInBounds_toArray, List.set_cons_zero, List.set_cons_succ, i64_w, i32_w]
       rfl
      refine one_ (i := 3) (N := some 38) #[true,true,true,true,false] rfl rfl (by kernel_rfl) (by decide) (fun K hK => ?_)
      refine goes_ Try.func14 (by kernel_rfl) rfl #[.agg #[.int .i64 t363, .slice Ao24 t364.length co24], .agg #[.int .i64 t370, .slice Ao33 t371.length co33]] (by rfl) rfl rfl mM ?_
      with_reducible refine (laws_eqGraph.calls kj10 t363 _ _ t364 t370 _ _ t371 true _ ?side1 ?side2 ?side3 ?side4 A29.out).mono ?_
      (case side1 => exact cP (Kd.R_reads' HO_368001.out).2.2)
      (case side2 => exact (Kd.R_reads' HO_368001.out).2.1)
      (case side3 => exact cP (Kd.R_reads' HO373.out).2.2)
      (case side4 => exact (Kd.R_reads' HO373.out).2.1)
      rintro e w34 ⟨rfl, hb⟩
      refine ⟨_, rfl, ?_⟩
      have n0_ := Aside0.mk (Kd.R_below (by exact rP HO_368001.out) hb)
      have n1_ := Aside0.mk (Kd.R_below (by exact rP HO373.out) hb)
      have n2_ := Aside0.mk (blk_below (g := gb355) (o := .cells #[.int .i64 a0_0, .slice A0_1 l0_1.length c0_1] 24 (0, 0)) (by exact kP BK355.out) hb)
      have n3_ := Aside0.mk (blk_below (g := gb367) (o := .cells #[.int .i64 t363, .slice Ao24 t364.length co24] 29 (0, 0)) (by exact kP BK367.out) hb)
      have n4_ := Aside0.mk (below_step (by exact bB) hb)
      clear HO_368001
      clear HO373
      clear BK355
      clear BK367
      clear HB
      have HO_368001 := n0_
      have HO373 := n1_
      have BK355 := n2_
      have BK367 := n3_
      have HB := n4_
      clear n0_ n1_ n2_ n3_ n4_
      (try clear hb)
      (try clear hb2)
      (try clear hk)
      (try clear hi)
      refine hK.out _ _ ⟨(blk_cell BK367.out 0).trans rfl, (blk_cell BK367.out 1).trans rfl, (blk_cell BK355.out 0).trans rfl, (blk_cell BK355.out 1).trans rfl⟩ (fun hHeld => ?_)
      clear hK K
      refine norm_ (a' := ?_) ?_ ?_
      rotate_left
      ·show Act.put _ (some 38) _ = _
       simp only [Act.put, List.setIfInBounds_toArray, List.set_cons_zero, List.set_cons_succ, i64_w, i32_w]
       rfl
      refine pure_ (i := 4) (N := some 39) (v := ?_) (a' := ?_) #[true,true,true,true,true] rfl rfl (by kernel_rfl) (fun _ _ _ h => h) (Or.inl ⟨by rfl, ?_⟩) ?_ ?_
      rotate_left
      ·intro w'
       go_simp
       with_reducible rfl
      rotate_left
      ·simp only [Act.put, List.setIfInBounds_toArray, List.set_cons_zero, List.set_cons_succ, i64_w, i32_w]
       rfl
      refine done_ (by kernel_rfl) ?_
      try go_wp2
      go_ret
      exact ⟨by first | rfl | (simp [errW_none, errW_some] <;> rfl) | (simp [*, errW_none, errW_some] <;> rfl), by exact bB⟩
     ·replace c30 := Bool.eq_false_iff.mpr c30
      subst c30
      have H1 : (some false) = some r := by rw [if_neg (show ¬ (false = true) by decide)] at H;exact H
      clear H
      have H := H1
      clear H1
      obtain rfl := Option.some.inj H
      try go_wp2
      have n0_ := Aside0.mk (Kd.R_drew HO_368001.out)
      have n1_ := Aside0.mk (blk_drew BK355.out)
      have n2_ := Aside0.mk (blk_drew BK367.out)
      have n3_ := Aside0.mk (below_drew1 HB.out)
      clear HO_368001
      clear BK355
      clear BK367
      clear HB
      have HO_368001 := n0_
      have BK355 := n1_
      have BK367 := n2_
      have HB := n3_
      clear n0_ n1_ n2_ n3_
      refine start_ (n := 5) (S := fun w' => w'.cell? ⟨gb367, 0, none⟩ = some (.int .i64 t363) ∧ w'.cell? ⟨gb367, 1, none⟩ = some (.slice Ao24 t364.length co24) ∧ w'.cell? ⟨gb355, 0, none⟩ = some (.int .i64 a0_0) ∧ w'.cell? ⟨gb355, 1, none⟩ = some (.slice A0_1 l0_1.length c0_1)) (ds := []) #[false,false,false,false,false] (by kernel_rfl) rfl rfl ⟨(blk_cell BK367.out 0).trans rfl, (blk_cell BK367.out 1).trans rfl, (blk_cell BK355.out 0).trans rfl, (blk_cell BK355.out 1).trans rfl⟩ (fun hHeld => ?_)
      generalize wc.drew = w35 at HO_368001 BK355 BK367 HB hHeld ⊢
      refine take_ (i := 0) (N := some 35) (v := ?_) (a' := ?_) #[true,false,false,false,false] rfl rfl (by kernel_rfl) (fun _ _ _ h => h) (Or.inl ⟨by rfl, ?_⟩) hHeld ?_ ?_
      rotate_left
      ·rintro w' ⟨s0, s1, s2, s3⟩
       go_simp
       with_reducible rfl
      rotate_left
      ·simp only [Act.put, List.setIfInBounds_toArray, List.set_cons_zero, List.set_cons_succ, i64_w, i32_w]
       rfl
      refine take_ (i := 1) (N := some 36) (v := ?_) (a' := ?_) #[true,true,false,false,false] rfl rfl (by kernel_rfl) (fun _ _ _ h => h) (Or.inl ⟨by rfl, ?_⟩) hHeld ?_ ?_
      rotate_left
      ·rintro w' ⟨s0, s1, s2, s3⟩
       go_simp
       with_reducible rfl
      rotate_left
      ·simp only [Act.put, List.setIfInBounds_toArray, List.set_cons_zero, List.set_cons_succ, i64_w, i32_w]
       rfl
      refine one_ (i := 2) (N := some 37) #[true,true,true,false,false] rfl rfl (by kernel_rfl) (by decide) (fun K hK => ?_)
      refine goes_ Try.func11 (by kernel_rfl) rfl #[.agg #[.int .i64 a0_0, .slice A0_1 l0_1.length c0_1]] (by rfl) rfl rfl mM ?_
      with_reducible refine (laws_toGraph.calls kj10 a0_0 _ _ l0_1 t370 t371 _ ?side1 ?side2 A28.out).mono ?_
      (case side1 => exact cP (Kd.C_below HR0_1.out HB.out))
      (case side2 => exact HC0_1.out)
      rintro e w36 ⟨v372, rfl, ho0, hb⟩
      refine ⟨_, rfl, ?_⟩
      have n0_ := Aside0.mk (Kd.R_elder' (by exact rP HO_368001.out) (Kd.R_base ho0) hb)
      have n1_ := Aside0.mk (Kd.R_lower (Kd.R_new' ho0 (Kd.R_lt (by exact rP HO_368001.out))) (below_size (by exact bB)))
      have n2_ := Aside0.mk (blk_below (g := gb355) (o := .cells #[.int .i64 a0_0, .slice A0_1 l0_1.length c0_1] 24 (0, 0)) (by exact kP BK355.out) hb)
      have n3_ := Aside0.mk (blk_below (g := gb367) (o := .cells #[.int .i64 t363, .slice Ao24 t364.length co24] 29 (0, 0)) (by exact kP BK367.out) hb)
      have n4_ := Aside0.mk (below_step (by exact bB) hb)
      clear HO_368001
      clear BK355
      clear BK367
      clear HB
      have HO_368001 := n0_
      have HO373 := n1_
      have BK355 := n2_
      have BK367 := n3_
      have HB := n4_
      clear n0_ n1_ n2_ n3_ n4_
      (try clear hb)
      (try clear hb2)
      (try clear hk)
      (try clear hi)
      (try clear ho0)
      obtain ⟨Ao37, co37, eo37⟩ := Kd.R_slice HO373.out
      (first | subst eo37 | (injection eo37 with f1_ f2_ f3_;have f4_ := f1_.symm;have f5_ := f3_.symm;clear f1_ f2_ f3_;subst f4_;subst f5_))
      refine hK.out _ _ ⟨(blk_cell BK367.out 0).trans rfl, (blk_cell BK367.out 1).trans rfl, (blk_cell BK355.out 0).trans rfl, (blk_cell BK355.out 1).trans rfl⟩ (fun hHeld => ?_)
      clear hK K
      refine norm_ (a' := ?_) ?_ ?_
      rotate_left
      ·show Act.put _ (some 37) _ = _
       simp only [Act.put, List.setIfInBounds_toArray, List.set_cons_zero, List.set_cons_succ, i64_w, i32_w]
       rfl
      refine one_ (i := 3) (N := some 38) #[true,true,true,true,false] rfl rfl (by kernel_rfl) (by decide) (fun K hK => ?_)
      refine goes_ Try.func14 (by kernel_rfl) rfl #[.agg #[.int .i64 t363, .slice Ao24 t364.length co24], .agg #[.int .i64 t370, .slice Ao37 t371.length co37]] (by rfl) rfl rfl mM ?_
      with_reducible refine (laws_eqGraph.calls kj10 t363 _ _ t364 t370 _ _ t371 false _ ?side1 ?side2 ?side3 ?side4 A29.out).mono ?_
      (case side1 => exact cP (Kd.R_reads' HO_368001.out).2.2)
      (case side2 => exact (Kd.R_reads' HO_368001.out).2.1)
      (case side3 => exact cP (Kd.R_reads' HO373.out).2.2)
      (case side4 => exact (Kd.R_reads' HO373.out).2.1)
      rintro e w38 ⟨rfl, hb⟩
      refine ⟨_, rfl, ?_⟩
      have n0_ := Aside0.mk (Kd.R_below (by exact rP HO_368001.out) hb)
      have n1_ := Aside0.mk (Kd.R_below (by exact rP HO373.out) hb)
      have n2_ := Aside0.mk (blk_below (g := gb355) (o := .cells #[.int .i64 a0_0, .slice A0_1 l0_1.length c0_1] 24 (0, 0)) (by exact kP BK355.out) hb)
      have n3_ := Aside0.mk (blk_below (g := gb367) (o := .cells #[.int .i64 t363, .slice Ao24 t364.length co24] 29 (0, 0)) (by exact kP BK367.out) hb)
      have n4_ := Aside0.mk (below_step (by exact bB) hb)
      clear HO_368001
      clear HO373
      clear BK355
      clear BK367
      clear HB
      have HO_368001 := n0_
      have HO373 := n1_
      have BK355 := n2_
      have BK367 := n3_
      have HB := n4_
      clear n0_ n1_ n2_ n3_ n4_
      (try clear hb)
      (try clear hb2)
      (try clear hk)
      (try clear hi)
      refine hK.out _ _ ⟨(blk_cell BK367.out 0).trans rfl, (blk_cell BK367.out 1).trans rfl, (blk_cell BK355.out 0).trans rfl, (blk_cell BK355.out 1).trans rfl⟩ (fun hHeld => ?_)
      clear hK K
      refine norm_ (a' := ?_) ?_ ?_
      rotate_left
      ·show Act.put _ (some 38) _ = _
       simp only [Act.put, List.setIfInBounds_toArray, List.set_cons_zero, List.set_cons_succ, i64_w, i32_w]
       rfl
      refine pure_ (i := 4) (N := some 39) (v := ?_) (a' := ?_) #[true,true,true,true,true] rfl rfl (by kernel_rfl) (fun _ _ _ h => h) (Or.inl ⟨by rfl, ?_⟩) ?_ ?_
      rotate_left
      ·intro w'
       go_simp
       with_reducible rfl
      rotate_left
      ·simp only [Act.put, List.setIfInBounds_toArray, List.set_cons_zero, List.set_cons_succ, i64_w, i32_w]
       rfl
      refine done_ (by kernel_rfl) ?_
      try go_wp2
      go_ret
      exact ⟨by first | rfl | (simp [errW_none, errW_some] <;> rfl) | (simp [*, errW_none, errW_some] <;> rfl), by exact bB⟩


end Go.Proofs.Ytaddgielnfhhpaa.QBurningNumber
