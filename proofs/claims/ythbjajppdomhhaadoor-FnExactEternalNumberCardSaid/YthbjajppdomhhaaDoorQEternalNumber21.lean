import Derived.Test.YthbjajppdomhhaaDoorQEternalNumber0
import Derived.Test.YthbjajppdomhhaaDoorQEternalNumber1
import Derived.Test.YthbjajppdomhhaaDoorQEternalNumber12
import Derived.Test.YthbjajppdomhhaaDoorQEternalNumber20
namespace Go.Proofs.YthbjajppdomhhaaDoor.QEternalNumber
open Go.RowKit Go.Proofs.YthbjajppdomhhaaDoorW.PrintWords Go.Proofs.YthbjajppdomhhaaDoorW.PrintLast Go.Proofs.YthbjajppdomhhaaDoorW.PrintMore
attribute [local go_sem] max2_int min2_int max_two min_two max_three min_three max_four min_four   -- for this text's walks alone
set_option linter.unusedVariables false
set_option linter.unusedSimpArgs false
/-! ### laws_FnExactEternalNumber: function 8 -/
def laws_FnExactEternalNumber.j0 : Nat → Bool → Int → List (S92) → Int → List (S92) → Option (Bool)
 | 0, _, _, _, _, _ => none
 | k + 1, x38, x634000, x634001, x646000, x646001 => if x38 = true then (some false) else ((laws_toGraph.f k x634000 x634001).bind fun bt648 => ((laws_eqGraph.f k x646000 x646001 bt648.1 bt648.2).bind fun t652 => (if t652 = true then (some true) else (some false))))
def laws_FnExactEternalNumber.f (k : Nat) (a0_0 : Int) (l0_1 : List (S92)) (a1 : Bool) : Option (Bool) := (laws_szGraph.f a0_0 l0_1 1048576).bind fun t634 => (if t634 < 0 then (some true) else ((laws_toGraph.f k a0_0 l0_1).bind fun bt635 => ((spec_EternalNumber.f k bt635.1 bt635.2 a1).bind fun bt639 => ((laws_toGraph.f k a0_0 l0_1).bind fun bt641 => ((impl_EternalNumber.f k bt641.1 bt641.2 a1).bind fun bt646 => (if bt646.1 = bt639.1 then (laws_FnExactEternalNumber.j0 k (bt646.2 != bt639.2) a0_0 l0_1 bt641.1 bt641.2) else (laws_FnExactEternalNumber.j0 k true a0_0 l0_1 bt641.1 bt641.2)))))))
theorem laws_FnExactEternalNumber.mono_l : ∀ k, (∀ y0 y1 y2 y3 y4, LeO (laws_FnExactEternalNumber.j0 k y0 y1 y2 y3 y4) (laws_FnExactEternalNumber.j0 (k + 1) y0 y1 y2 y3 y4))
 | 0 => fun _ _ _ _ _ r h => by simp [laws_FnExactEternalNumber.j0] at h
 | k + 1 => by
  have ih0 := laws_FnExactEternalNumber.mono_l k
  ·intro y0 y1 y2 y3 y4
   unfold laws_FnExactEternalNumber.j0
   repeat' first
   | (with_reducible exact ih0 _ _ _ _ _)
   | (with_reducible exact impl_EternalNumber.mono _ _ _ _)
   | (with_reducible exact laws_eqGraph.mono _ _ _ _ _)
   | (with_reducible exact laws_toGraph.mono _ _ _)
   | (with_reducible exact spec_EternalNumber.mono _ _ _ _)
   | (with_reducible exact LeO.refl _)
   | (with_reducible exact LeO.none _)
   | (with_reducible refine LeO.ite ?_ ?_)
   | (with_reducible refine LeO.bind ?_ (fun _ => ?_))
   | exact ih0 _ _ _ _ _
   | exact impl_EternalNumber.mono _ _ _ _
   | exact laws_eqGraph.mono _ _ _ _ _
   | exact laws_toGraph.mono _ _ _
   | exact spec_EternalNumber.mono _ _ _ _
   | exact LeO.none _
   | refine LeO.ite ?_ ?_
   | refine LeO.bind ?_ (fun _ => ?_)
theorem laws_FnExactEternalNumber.mono : ∀ a0 a1 a2 k, LeO (laws_FnExactEternalNumber.f k a0 a1 a2) (laws_FnExactEternalNumber.f (k + 1) a0 a1 a2) := by
 intro a0 a1 a2 k
 have ih0 := laws_FnExactEternalNumber.mono_l k
 unfold laws_FnExactEternalNumber.f
 repeat' first
   | (with_reducible exact ih0 _ _ _ _ _)
   | (with_reducible exact impl_EternalNumber.mono _ _ _ _)
   | (with_reducible exact laws_eqGraph.mono _ _ _ _ _)
   | (with_reducible exact laws_toGraph.mono _ _ _)
   | (with_reducible exact spec_EternalNumber.mono _ _ _ _)
   | (with_reducible exact LeO.refl _)
   | (with_reducible exact LeO.none _)
   | (with_reducible refine LeO.ite ?_ ?_)
   | (with_reducible refine LeO.bind ?_ (fun _ => ?_))
   | exact ih0 _ _ _ _ _
   | exact impl_EternalNumber.mono _ _ _ _
   | exact laws_eqGraph.mono _ _ _ _ _
   | exact laws_toGraph.mono _ _ _
   | exact spec_EternalNumber.mono _ _ _ _
   | exact LeO.none _
   | refine LeO.ite ?_ ?_
   | refine LeO.bind ?_ (fun _ => ?_)
set_option maxHeartbeats 8000000 in
set_option maxRecDepth 100000 in
theorem laws_FnExactEternalNumber.calls (k : Nat) (a0_0 : Int) (A0_1 : Option Addr) (c0_1 : Nat) (l0_1 : List (S92)) (a1 : Bool) (r : Bool) (w : World) (hT : TabG w) (hr0_1 : Kd.C k92 w A0_1 l0_1.length l0_1) (hc0_1 : l0_1.length ≤ c0_1) (h : laws_FnExactEternalNumber.f k a0_0 l0_1 a1 = some r) :
  Calls Tryd.prog 8 #[.agg #[.int .i64 a0_0, .slice A0_1 l0_1.length c0_1], .bool a1] w fun e w' => e = .returned (.bool r) ∧ Below w.heap.size w w' := by
 have hu24 := Tryd.underlying24
 have hu28 := Tryd.underlying28
 have HR0_1 := Aside0.mk hr0_1
 have HC0_1 := Aside0.mk hc0_1
 clear hr0_1 hc0_1
 have HB := Aside0.mk (Below.refl w.heap.size w)
 have HT := Aside0.mk hT
 clear hT
 have H : ((laws_szGraph.f a0_0 l0_1 1048576).bind fun t634 => (if t634 < 0 then (some true) else ((laws_toGraph.f k a0_0 l0_1).bind fun bt635 => ((spec_EternalNumber.f k bt635.1 bt635.2 a1).bind fun bt639 => ((laws_toGraph.f k a0_0 l0_1).bind fun bt641 => ((impl_EternalNumber.f k bt641.1 bt641.2 a1).bind fun bt646 => (if bt646.1 = bt639.1 then (laws_FnExactEternalNumber.j0 k (bt646.2 != bt639.2) a0_0 l0_1 bt641.1 bt641.2) else (laws_FnExactEternalNumber.j0 k true a0_0 l0_1 bt641.1 bt641.2)))))))) = some r := h
 clear h
 replace H := Option.bind_eq_some_iff.mp H
 obtain ⟨t634, A30, H⟩ := H
 replace H : (if t634 < 0 then (some true) else ((laws_toGraph.f k a0_0 l0_1).bind fun bt635 => ((spec_EternalNumber.f k bt635.1 bt635.2 a1).bind fun bt639 => ((laws_toGraph.f k a0_0 l0_1).bind fun bt641 => ((impl_EternalNumber.f k bt641.1 bt641.2 a1).bind fun bt646 => (if bt646.1 = bt639.1 then (laws_FnExactEternalNumber.j0 k (bt646.2 != bt639.2) a0_0 l0_1 bt641.1 bt641.2) else (laws_FnExactEternalNumber.j0 k true a0_0 l0_1 bt641.1 bt641.2))))))) = some r := H
 have A3 := Aside0.mk A30
 clear A30
 by_cases c4 : t634 < 0
 ·rw [if_pos c4] at H
  have c4b0 : decide (t634 < 0) = true := decide_eq_true c4
  clear c4
  obtain rfl := Option.some.inj H
  go_enter Tryd.func8, Tryd.ntmps8
  go_wp2_with (first | ((with_reducible refine gate_dst (N := 2) rfl ?_);refine box_event ?hg (N := 2) ?hd (cs := #[.int .i64 a0_0, .slice A0_1 l0_1.length c0_1]) (t := 24) ?hr ?_;(case hd => rfl);(case hg => rfl);(case hr => first | (go_simp;done) | (go_simp;rfl));intro gb633 hg w5 hbox hb;have n0_ := Aside0.mk (below_step (by exact bB) hb);have n1_ := Aside0.mk (hbox);have n2_ := Aside0.mk ((by rw [hg];exact (below_size (by exact bB)) : w.heap.size ≤ gb633));have n3_ := Aside0.mk ((by rw [hg];exact (below_size (by exact bB)) : w.heap.size ≤ gb633));clear HB;have HB := n0_;have BK633 := n1_;have GW633 := n2_;have GE633 := n3_;clear n0_ n1_ n2_ n3_;clear hb hbox hg;have hcz6_0 : w5.cell? ⟨gb633, 0, none⟩ = some (.int .i64 a0_0) := (blk_cell BK633.out 0).trans rfl;have hcz6_1 : w5.cell? ⟨gb633, 1, none⟩ = some (.slice A0_1 l0_1.length c0_1) := (blk_cell BK633.out 1).trans rfl;have hfz6_0 := blk_frozen BK633.out 0;have hfz6_1 := blk_frozen BK633.out 1) | ((with_reducible refine gate_callee (f := 11) rfl ?_);refine goesL_ (some 13) rfl rfl Tryd.func11 (by kernel_rfl) rfl #[.agg #[.int .i64 a0_0, .slice A0_1 l0_1.length c0_1], .int .i64 1048576] rfl mM ?_;(with_reducible refine (laws_szGraph.calls a0_0 _ _ l0_1 1048576 t634 _ ?side1 ?side2 A3.out).mono ?_);(case side1 => exact cP (Kd.C_below HR0_1.out HB.out));(case side2 => exact HC0_1.out);rintro e w7 ⟨rfl, hb⟩;refine ⟨_, rfl, ?_⟩;have n0_ := Aside0.mk (blk_below (g := gb633) (o := .cells #[.int .i64 a0_0, .slice A0_1 l0_1.length c0_1] 24 (0, 0)) (by exact kP BK633.out) hb);have n1_ := Aside0.mk (below_step (by exact bB) hb);clear BK633;clear HB;have BK633 := n0_;have HB := n1_;clear n0_ n1_;(try clear hb);(try clear hb2);(try clear hk);(try clear hi)))
  go_ret
  exact ⟨by first | rfl | (simp [errW_none, errW_some] <;> rfl) | (simp [*, errW_none, errW_some] <;> rfl), by exact bB⟩
 ·rw [if_neg c4] at H
  have c4b0 : decide (t634 < 0) = false := decide_eq_false c4
  clear c4
  replace H := Option.bind_eq_some_iff.mp H
  obtain ⟨⟨t635, t636⟩, A80, H⟩ := H
  replace H : ((spec_EternalNumber.f k t635 t636 a1).bind fun bt639 => ((laws_toGraph.f k a0_0 l0_1).bind fun bt641 => ((impl_EternalNumber.f k bt641.1 bt641.2 a1).bind fun bt646 => (if bt646.1 = bt639.1 then (laws_FnExactEternalNumber.j0 k (bt646.2 != bt639.2) a0_0 l0_1 bt641.1 bt641.2) else (laws_FnExactEternalNumber.j0 k true a0_0 l0_1 bt641.1 bt641.2))))) = some r := H
  have A8 := Aside0.mk A80
  clear A80
  replace H := Option.bind_eq_some_iff.mp H
  obtain ⟨⟨t639, t640⟩, A90, H⟩ := H
  replace H : ((laws_toGraph.f k a0_0 l0_1).bind fun bt641 => ((impl_EternalNumber.f k bt641.1 bt641.2 a1).bind fun bt646 => (if bt646.1 = t639 then (laws_FnExactEternalNumber.j0 k (bt646.2 != t640) a0_0 l0_1 bt641.1 bt641.2) else (laws_FnExactEternalNumber.j0 k true a0_0 l0_1 bt641.1 bt641.2)))) = some r := H
  have A9 := Aside0.mk A90
  clear A90
  replace H := Option.bind_eq_some_iff.mp H
  obtain ⟨⟨t641, t642⟩, A100, H⟩ := H
  replace H : ((impl_EternalNumber.f k t641 t642 a1).bind fun bt646 => (if bt646.1 = t639 then (laws_FnExactEternalNumber.j0 k (bt646.2 != t640) a0_0 l0_1 t641 t642) else (laws_FnExactEternalNumber.j0 k true a0_0 l0_1 t641 t642))) = some r := H
  have A10 := Aside0.mk A100
  clear A100
  replace H := Option.bind_eq_some_iff.mp H
  obtain ⟨⟨t646, t647⟩, A110, H⟩ := H
  replace H : (if t646 = t639 then (laws_FnExactEternalNumber.j0 k (t647 != t640) a0_0 l0_1 t641 t642) else (laws_FnExactEternalNumber.j0 k true a0_0 l0_1 t641 t642)) = some r := H
  have A11 := Aside0.mk A110
  clear A110
  have HC12 := Aside0.mk H
  clear H
  go_enter Tryd.func8, Tryd.ntmps8
  go_upto_region 8 with (first | ((with_reducible refine gate_dst (N := 2) rfl ?_);refine box_event ?hg (N := 2) ?hd (cs := #[.int .i64 a0_0, .slice A0_1 l0_1.length c0_1]) (t := 24) ?hr ?_;(case hd => rfl);(case hg => rfl);(case hr => first | (go_simp;done) | (go_simp;rfl));intro gb633 hg w13 hbox hb;have n0_ := Aside0.mk (below_step (by exact bB) hb);have n1_ := Aside0.mk (hbox);have n2_ := Aside0.mk ((by rw [hg];exact (below_size (by exact bB)) : w.heap.size ≤ gb633));have n3_ := Aside0.mk ((by rw [hg];exact (below_size (by exact bB)) : w.heap.size ≤ gb633));clear HB;have HB := n0_;have BK633 := n1_;have GW633 := n2_;have GE633 := n3_;clear n0_ n1_ n2_ n3_;clear hb hbox hg;have hcz14_0 : w13.cell? ⟨gb633, 0, none⟩ = some (.int .i64 a0_0) := (blk_cell BK633.out 0).trans rfl;have hcz14_1 : w13.cell? ⟨gb633, 1, none⟩ = some (.slice A0_1 l0_1.length c0_1) := (blk_cell BK633.out 1).trans rfl;have hfz14_0 := blk_frozen BK633.out 0;have hfz14_1 := blk_frozen BK633.out 1) | ((with_reducible refine gate_callee (f := 11) rfl ?_);refine goesL_ (some 13) rfl rfl Tryd.func11 (by kernel_rfl) rfl #[.agg #[.int .i64 a0_0, .slice A0_1 l0_1.length c0_1], .int .i64 1048576] rfl mM ?_;(with_reducible refine (laws_szGraph.calls a0_0 _ _ l0_1 1048576 t634 _ ?side1 ?side2 A3.out).mono ?_);(case side1 => exact cP (Kd.C_below HR0_1.out HB.out));(case side2 => exact HC0_1.out);rintro e w15 ⟨rfl, hb⟩;refine ⟨_, rfl, ?_⟩;have n0_ := Aside0.mk (blk_below (g := gb633) (o := .cells #[.int .i64 a0_0, .slice A0_1 l0_1.length c0_1] 24 (0, 0)) (by exact kP BK633.out) hb);have n1_ := Aside0.mk (below_step (by exact bB) hb);clear BK633;clear HB;have BK633 := n0_;have HB := n1_;clear n0_ n1_;(try clear hb);(try clear hb2);(try clear hk);(try clear hi);have hcz16_0 : w15.cell? ⟨gb633, 0, none⟩ = some (.int .i64 a0_0) := (blk_cell BK633.out 0).trans rfl;have hcz16_1 : w15.cell? ⟨gb633, 1, none⟩ = some (.slice A0_1 l0_1.length c0_1) := (blk_cell BK633.out 1).trans rfl;have hfz16_0 := blk_frozen BK633.out 0;have hfz16_1 := blk_frozen BK633.out 1) | ((with_reducible refine gate_callee (f := 13) rfl ?_);refine goesL_ (some 18) rfl rfl Tryd.func13 (by kernel_rfl) rfl #[.agg #[.int .i64 a0_0, .slice A0_1 l0_1.length c0_1]] rfl mM ?_;(with_reducible refine (laws_toGraph.calls k a0_0 _ _ l0_1 t635 t636 _ ?side1 ?side2 A8.out).mono ?_);(case side1 => exact cP (Kd.C_below HR0_1.out HB.out));(case side2 => exact HC0_1.out);rintro e w17 ⟨v637, rfl, ho0, hb⟩;refine ⟨_, rfl, ?_⟩;have n0_ := Aside0.mk (Kd.R_lower ho0 (below_size (by exact bB)));have n1_ := Aside0.mk (blk_below (g := gb633) (o := .cells #[.int .i64 a0_0, .slice A0_1 l0_1.length c0_1] 24 (0, 0)) (by exact kP BK633.out) hb);have n2_ := Aside0.mk (below_step (by exact bB) hb);clear BK633;clear HB;have HO638 := n0_;have BK633 := n1_;have HB := n2_;clear n0_ n1_ n2_;(try clear hb);(try clear hb2);(try clear hk);(try clear hi);(try clear ho0);obtain ⟨Ao18, co18, eo18⟩ := Kd.R_slice HO638.out;subst eo18) | ((with_reducible refine gate_callee (f := 34) rfl ?_);refine goesL_ (some 20) rfl rfl Tryd.func34 (by kernel_rfl) rfl #[.agg #[.int .i64 t635, .slice Ao18 t636.length co18], .bool a1] rfl mM ?_;(with_reducible refine (spec_EternalNumber.calls k t635 _ _ t636 a1 t639 t640 _ ?side1 ?side2 A9.out).mono ?_);(case side1 => exact cP (Kd.R_reads' HO638.out).2.2);(case side2 => exact (Kd.R_reads' HO638.out).2.1);rintro e w19 ⟨rfl, hb⟩;refine ⟨_, rfl, ?_⟩;have n0_ := Aside0.mk (Kd.R_below (by exact rP HO638.out) hb);have n1_ := Aside0.mk (blk_below (g := gb633) (o := .cells #[.int .i64 a0_0, .slice A0_1 l0_1.length c0_1] 24 (0, 0)) (by exact kP BK633.out) hb);have n2_ := Aside0.mk (below_step (by exact bB) hb);clear HO638;clear BK633;clear HB;have HO638 := n0_;have BK633 := n1_;have HB := n2_;clear n0_ n1_ n2_;(try clear hb);(try clear hb2);(try clear hk);(try clear hi);have hcz20_0 : w19.cell? ⟨gb633, 0, none⟩ = some (.int .i64 a0_0) := (blk_cell BK633.out 0).trans rfl;have hcz20_1 : w19.cell? ⟨gb633, 1, none⟩ = some (.slice A0_1 l0_1.length c0_1) := (blk_cell BK633.out 1).trans rfl;have hfz20_0 := blk_frozen BK633.out 0;have hfz20_1 := blk_frozen BK633.out 1) | ((with_reducible refine gate_callee (f := 13) rfl ?_);refine goesL_ (some 24) rfl rfl Tryd.func13 (by kernel_rfl) rfl #[.agg #[.int .i64 a0_0, .slice A0_1 l0_1.length c0_1]] rfl mM ?_;(with_reducible refine (laws_toGraph.calls k a0_0 _ _ l0_1 t641 t642 _ ?side1 ?side2 A10.out).mono ?_);(case side1 => exact cP (Kd.C_below HR0_1.out HB.out));(case side2 => exact HC0_1.out);rintro e w21 ⟨v643, rfl, ho0, hb⟩;refine ⟨_, rfl, ?_⟩;have n0_ := Aside0.mk (Kd.R_elder' (by exact rP HO638.out) (Kd.R_base ho0) hb);have n1_ := Aside0.mk (Kd.R_lower (Kd.R_new' ho0 (Kd.R_lt (by exact rP HO638.out))) (below_size (by exact bB)));have n2_ := Aside0.mk (blk_below (g := gb633) (o := .cells #[.int .i64 a0_0, .slice A0_1 l0_1.length c0_1] 24 (0, 0)) (by exact kP BK633.out) hb);have n3_ := Aside0.mk (below_step (by exact bB) hb);clear HO638;clear BK633;clear HB;have HO638 := n0_;have HO644 := n1_;have BK633 := n2_;have HB := n3_;clear n0_ n1_ n2_ n3_;(try clear hb);(try clear hb2);(try clear hk);(try clear hi);(try clear ho0)) | ((with_reducible refine gate_dst (N := 8) rfl ?_);refine box_event ?hg (N := 8) ?hd (cs := #[.int .i64 0, .slice none 0 0]) (t := 28) ?hr ?_;(case hd => rfl);(case hg => rfl);(case hr => first | (go_simp;done) | (go_simp;rfl));intro gb645 hg w22 hbox hb;have n0_ := Aside0.mk (Kd.R_below (by exact rP HO638.out) hb);have n1_ := Aside0.mk (Kd.R_below (by exact rP HO644.out) hb);have n2_ := Aside0.mk (blk_below (g := gb633) (o := .cells #[.int .i64 a0_0, .slice A0_1 l0_1.length c0_1] 24 (0, 0)) (by exact kP BK633.out) hb);have n3_ := Aside0.mk (below_step (by exact bB) hb);have n4_ := Aside0.mk (hbox);have n5_ := Aside0.mk ((by rw [hg];exact (below_size (by exact bB)) : w.heap.size ≤ gb645));have n6_ := Aside0.mk ((by rw [hg];exact (below_size (by exact bB)) : w.heap.size ≤ gb645));have n7_ := Aside0.mk ((by rw [hg];exact Nat.ne_of_lt (blk_lt (g := gb633) (o := .cells #[.int .i64 a0_0, .slice A0_1 l0_1.length c0_1] 24 (0, 0)) (by exact kP BK633.out)) : gb633 ≠ gb645));have n8_ := Aside0.mk ((by rw [hg];exact Nat.ne_of_gt (blk_lt (g := gb633) (o := .cells #[.int .i64 a0_0, .slice A0_1 l0_1.length c0_1] 24 (0, 0)) (by exact kP BK633.out)) : gb645 ≠ gb633));clear HO638;clear HO644;clear BK633;clear HB;have HO638 := n0_;have HO644 := n1_;have BK633 := n2_;have HB := n3_;have BK645 := n4_;have GW645 := n5_;have GE645 := n6_;have NB633_645 := n7_;have NB645_633 := n8_;clear n0_ n1_ n2_ n3_ n4_ n5_ n6_ n7_ n8_;clear hb hbox hg;have hnb23 := NB645_633.out;have hnc23 := NB633_645.out;have hcz24_0 : w22.cell? ⟨gb645, 0, none⟩ = some (.int .i64 0) := (blk_cell BK645.out 0).trans rfl;have hcz24_1 : w22.cell? ⟨gb645, 1, none⟩ = some (.slice none 0 0) := (blk_cell BK645.out 1).trans rfl;have hfz24_0 := blk_frozen BK645.out 0;have hfz24_1 := blk_frozen BK645.out 1;obtain ⟨Ao25, co25, eo25⟩ := Kd.R_slice HO644.out;subst eo25) | ((with_reducible refine gate_callee (f := 35) rfl ?_);refine goesL_ (some 28) rfl rfl Tryd.func35 (by kernel_rfl) rfl #[.agg #[.int .i64 t641, .slice Ao25 t642.length co25], .bool a1] rfl mM ?_;(with_reducible refine (impl_EternalNumber.calls k t641 _ _ t642 a1 t646 t647 _ ?sideT ?side1 ?side2 A11.out).mono ?_);(case sideT => exact tabG_below HT.out (by exact bB));(case side1 => refine (Kd.R_reads' (e := 92) (base := w.heap.size) (ok := fun k_ => (True ∧ some k_ ≠ (.slice Ao18 t636.length co18 : Value).ownBlock)) (n := t642.length) (c := co25) ?_).2.2;exact (by refine rP ?_;exact (Kd.R_mono (Kd.R_far (p := ⟨gb645, 1, none⟩) (Kd.R_far (p := ⟨gb645, 0, none⟩) (Kd.R_types HO644.out BK645.out (by decide)) (fun _ hk => hk.2) (.int .i64 t641)) (fun _ hk => hk.2) (.slice Ao25 t642.length co25)) (fun _ h_ => h_.1))));(case side2 => exact (Kd.R_reads' HO644.out).2.1);rintro e w26 ⟨rfl, hb⟩;refine ⟨_, rfl, ?_⟩;have n0_ := Aside0.mk (Kd.R_below (by exact rP ((Kd.R_mono (Kd.R_far (p := ⟨gb645, 1, none⟩) (Kd.R_far (p := ⟨gb645, 0, none⟩) (Kd.R_types HO638.out BK645.out (by decide)) (fun _ hk => hk.2) (.int .i64 t641)) (fun _ hk => hk.2) (.slice Ao25 t642.length co25)) (fun _ h_ => h_.1)))) hb);have n1_ := Aside0.mk (Kd.R_below (by exact rP ((Kd.R_mono (Kd.R_far (p := ⟨gb645, 1, none⟩) (Kd.R_far (p := ⟨gb645, 0, none⟩) (Kd.R_types HO644.out BK645.out (by decide)) (fun _ hk => hk.2) (.int .i64 t641)) (fun _ hk => hk.2) (.slice Ao25 t642.length co25)) (fun _ h_ => h_.1)))) hb);have n2_ := Aside0.mk (blk_below (g := gb633) (o := .cells #[.int .i64 a0_0, .slice A0_1 l0_1.length c0_1] 24 (0, 0)) (by refine kP ?_;refine blk_far ?_ NB633_645.out _;refine kP ?_;refine blk_far ?_ NB633_645.out _;exact kP BK633.out) hb);have n3_ := Aside0.mk (blk_below (g := gb645) (o := .cells #[.int .i64 t641, .slice Ao25 t642.length co25] 28 (0, 0)) (by refine kP ?_;refine blk_put (cs := #[.int .i64 t641, .slice none 0 0]) ?_ 1 _ rfl;refine kP ?_;refine blk_put (cs := #[.int .i64 0, .slice none 0 0]) ?_ 0 _ rfl;exact kP BK645.out) hb);have n4_ := Aside0.mk (below_step (by exact bB) hb);clear HO638;clear HO644;clear BK633;clear BK645;clear HB;have HO638 := n0_;have HO644 := n1_;have BK633 := n2_;have BK645 := n3_;have HB := n4_;clear n0_ n1_ n2_ n3_ n4_;(try clear hb);(try clear hb2);(try clear hk);(try clear hi)))
  (try simp only [Act.put, List.setIfInBounds_toArray, List.set_cons_zero, List.set_cons_succ])
  go_cut [38] (fun v38 wc => ∃ (kq : Nat) (x38_11 : Bool), v38 = .bool x38_11 ∧ Aside0 (laws_FnExactEternalNumber.j0 kq x38_11 a0_0 l0_1 t641 t642 = some r) ∧ Aside0 (kq ≤ k) ∧ Aside0 (Kd.R k92 92 wc w.heap.size (fun _ => True) (.slice Ao25 t642.length co25) t642) ∧ Aside0 (wc.heap[gb633]? = some (.cells #[.int .i64 a0_0, (.slice A0_1 l0_1.length c0_1)] 24 (0, 0))) ∧ Aside0 (wc.heap[gb645]? = some (.cells #[.int .i64 t641, (.slice Ao25 t642.length co25)] 28 (0, 0))) ∧ Aside0 (Below w.heap.size w wc))
  case first =>
   have H := HC12.out
   clear HC12
   by_cases c27 : t646 = t639
   ·rw [if_pos c27] at H
    have c27b0 : (t646 == t639) = true := beq_iff_eq.mpr c27
    have c27b1 : (t646 != t639) = false := bne_eq_false_iff_eq.mpr c27
    clear c27
    (first | rw [c27b0] | (simp only [i64_w, i32_w];rw [c27b0]) | skip)
    have H' := Aside0.mk H
    clear H
    go_wp2
    go_meet
    case rel => exact ⟨_, ((t647 != t640)), (by first | rfl | (simp;done) | (simp [*];done)), H', ⟨by first | omega | exact Nat.le_refl _⟩, ⟨by refine rP ?_;exact Kd.R_mono HO644.out (fun _ hk => trivial)⟩, ⟨by exact kP BK633.out⟩, ⟨by exact kP BK645.out⟩, ⟨by exact bB⟩⟩
   ·rw [if_neg c27] at H
    have c27b0 : (t646 == t639) = false := beq_eq_false_iff_ne.mpr c27
    have c27b1 : (t646 != t639) = true := bne_iff_ne.mpr c27
    (first | rw [c27b0] | (simp only [i64_w, i32_w];rw [c27b0]) | skip)
    have H' := Aside0.mk H
    clear H
    go_wp2
    go_meet
    case rel => exact ⟨_, (true), (by first | rfl | (simp;done) | (simp [*];done)), H', ⟨by first | omega | exact Nat.le_refl _⟩, ⟨by refine rP ?_;exact Kd.R_mono HO644.out (fun _ hk => trivial)⟩, ⟨by exact kP BK633.out⟩, ⟨by exact kP BK645.out⟩, ⟨by exact bB⟩⟩
  case rest =>
   clear HC12
   try clear c1
   try clear c2
   try clear p2
   try clear c3
   try clear c4
   try clear c4b0
   try clear c8
   try clear c11
   try clear c13
   try clear c23
   try clear c27
   try clear c27b0
   try clear c27b1
   try clear hcz14_0
   try clear hcz14_1
   try clear hcz16_0
   try clear hcz16_1
   try clear hcz20_0
   try clear hcz20_1
   try clear hcz24_0
   try clear hcz24_1
   try clear hcz6_0
   try clear hcz6_1
   try clear hfz14_0
   try clear hfz14_1
   try clear hfz16_0
   try clear hfz16_1
   try clear hfz20_0
   try clear hfz20_1
   try clear hfz24_0
   try clear hfz24_1
   try clear hfz6_0
   try clear hfz6_1
   obtain ⟨kq, x38_11, rfl, HA, HJ11, HO_646001, BK633, BK645, HB⟩ := hcut
   cases kq with
   | zero => exact absurd HA.out (by simp [laws_FnExactEternalNumber.j0])
   | succ kj11 =>
    have H := HA.out
    clear HA
    simp only [laws_FnExactEternalNumber.j0] at H
    by_cases c28 : x38_11 = true
    ·subst c28
     have H1 : (some false) = some r := by rw [if_pos rfl] at H;exact H
     clear H
     have H := H1
     clear H1
     obtain rfl := Option.some.inj H
     go_wp2
     go_ret
     exact ⟨by first | rfl | (simp [errW_none, errW_some] <;> rfl) | (simp [*, errW_none, errW_some] <;> rfl), by exact bB⟩
    ·replace c28 := Bool.eq_false_iff.mpr c28
     subst c28
     have H1 : ((laws_toGraph.f kj11 a0_0 l0_1).bind fun bt648 => ((laws_eqGraph.f kj11 t641 t642 bt648.1 bt648.2).bind fun t652 => (if t652 = true then (some true) else (some false)))) = some r := by rw [if_neg (show ¬ (false = true) by decide)] at H;exact H
     clear H
     have H := H1
     clear H1
     replace H := Option.bind_eq_some_iff.mp H
     obtain ⟨⟨t648, t649⟩, A290, H⟩ := H
     replace H : ((laws_eqGraph.f kj11 t641 t642 t648 t649).bind fun t652 => (if t652 = true then (some true) else (some false))) = some r := H
     have A29 := Aside0.mk A290
     clear A290
     replace H := Option.bind_eq_some_iff.mp H
     obtain ⟨t652, A300, H⟩ := H
     replace H : (if t652 = true then (some true) else (some false)) = some r := H
     have A30 := Aside0.mk A300
     clear A300
     by_cases c31 : t652 = true
     ·subst c31
      have H1 : (some true) = some r := by rw [if_pos rfl] at H;exact H
      clear H
      have H := H1
      clear H1
      obtain rfl := Option.some.inj H
      try go_wp2
      have n0_ := Aside0.mk (Kd.R_drew HO_646001.out)
      have n1_ := Aside0.mk (blk_drew BK633.out)
      have n2_ := Aside0.mk (blk_drew BK645.out)
      have n3_ := Aside0.mk (below_drew1 HB.out)
      clear HO_646001
      clear BK633
      clear BK645
      clear HB
      have HO_646001 := n0_
      have BK633 := n1_
      have BK645 := n2_
      have HB := n3_
      clear n0_ n1_ n2_ n3_
      refine start_ (n := 5) (S := fun w' => w'.cell? ⟨gb645, 0, none⟩ = some (.int .i64 t641) ∧ w'.cell? ⟨gb645, 1, none⟩ = some (.slice Ao25 t642.length co25) ∧ w'.cell? ⟨gb633, 0, none⟩ = some (.int .i64 a0_0) ∧ w'.cell? ⟨gb633, 1, none⟩ = some (.slice A0_1 l0_1.length c0_1)) (ds := []) #[false,false,false,false,false] (by kernel_rfl) rfl rfl ⟨(blk_cell BK645.out 0).trans rfl, (blk_cell BK645.out 1).trans rfl, (blk_cell BK633.out 0).trans rfl, (blk_cell BK633.out 1).trans rfl⟩ (fun hHeld => ?_)
      generalize wc.drew = w32 at HO_646001 BK633 BK645 HB hHeld ⊢
      refine take_ (i := 0) (N := some 39) (v := ?_) (a' := ?_) #[true,false,false,false,false] rfl rfl (by kernel_rfl) (fun _ _ _ h => h) (Or.inl ⟨by rfl, ?_⟩) hHeld ?_ ?_
      rotate_left
      ·rintro w' ⟨s0, s1, s2, s3⟩
       go_simp
       with_reducible rfl
      rotate_left
      ·simp only [Act.put, List.setIfInBounds_toArray, List.set_cons_zero, List.set_cons_succ, i64_w, i32_w]
       rfl
      refine take_ (i := 1) (N := some 40) (v := ?_) (a' := ?_) #[true,true,false,false,false] rfl rfl (by kernel_rfl) (fun _ _ _ h => h) (Or.inl ⟨by rfl, ?_⟩) hHeld ?_ ?_
      rotate_left
      ·rintro w' ⟨s0, s1, s2, s3⟩
       go_simp
       with_reducible rfl
      rotate_left
      ·simp only [Act.put, List.setIfInBounds_toArray, List.set_cons_zero, List.set_cons_succ, i64_w, i32_w]
       rfl
      refine one_ (i := 2) (N := some 41) #[true,true,true,false,false] rfl rfl (by kernel_rfl) (by decide) (fun K hK => ?_)
      refine goes_ Tryd.func13 (by kernel_rfl) rfl #[.agg #[.int .i64 a0_0, .slice A0_1 l0_1.length c0_1]] (by rfl) rfl rfl mM ?_
      with_reducible refine (laws_toGraph.calls kj11 a0_0 _ _ l0_1 t648 t649 _ ?side1 ?side2 A29.out).mono ?_
      (case side1 => exact cP (Kd.C_below HR0_1.out HB.out))
      (case side2 => exact HC0_1.out)
      rintro e w33 ⟨v650, rfl, ho0, hb⟩
      refine ⟨_, rfl, ?_⟩
      have n0_ := Aside0.mk (Kd.R_elder' (by exact rP HO_646001.out) (Kd.R_base ho0) hb)
      have n1_ := Aside0.mk (Kd.R_lower (Kd.R_new' ho0 (Kd.R_lt (by exact rP HO_646001.out))) (below_size (by exact bB)))
      have n2_ := Aside0.mk (blk_below (g := gb633) (o := .cells #[.int .i64 a0_0, .slice A0_1 l0_1.length c0_1] 24 (0, 0)) (by exact kP BK633.out) hb)
      have n3_ := Aside0.mk (blk_below (g := gb645) (o := .cells #[.int .i64 t641, .slice Ao25 t642.length co25] 28 (0, 0)) (by exact kP BK645.out) hb)
      have n4_ := Aside0.mk (below_step (by exact bB) hb)
      clear HO_646001
      clear BK633
      clear BK645
      clear HB
      have HO_646001 := n0_
      have HO651 := n1_
      have BK633 := n2_
      have BK645 := n3_
      have HB := n4_
      clear n0_ n1_ n2_ n3_ n4_
      (try clear hb)
      (try clear hb2)
      (try clear hk)
      (try clear hi)
      (try clear ho0)
      obtain ⟨Ao34, co34, eo34⟩ := Kd.R_slice HO651.out
      (first | subst eo34 | (injection eo34 with f1_ f2_ f3_;have f4_ := f1_.symm;have f5_ := f3_.symm;clear f1_ f2_ f3_;subst f4_;subst f5_))
      refine hK.out _ _ ⟨(blk_cell BK645.out 0).trans rfl, (blk_cell BK645.out 1).trans rfl, (blk_cell BK633.out 0).trans rfl, (blk_cell BK633.out 1).trans rfl⟩ (fun hHeld => ?_)
      clear hK K
      refine norm_ (a' := ?_) ?_ ?_
      rotate_left
      ·show Act.put _ (some 41) _ = _
       simp only [Act.put, List.setIfInBounds_toArray, List.set_cons_zero, List.set_cons_succ, i64_w, i32_w]
       rfl
      refine one_ (i := 3) (N := some 42) #[true,true,true,true,false] rfl rfl (by kernel_rfl) (by decide) (fun K hK => ?_)
      refine goes_ Tryd.func15 (by kernel_rfl) rfl #[.agg #[.int .i64 t641, .slice Ao25 t642.length co25], .agg #[.int .i64 t648, .slice Ao34 t649.length co34]] (by rfl) rfl rfl mM ?_
      with_reducible refine (laws_eqGraph.calls kj11 t641 _ _ t642 t648 _ _ t649 true _ ?side1 ?side2 ?side3 ?side4 A30.out).mono ?_
      (case side1 => exact cP (Kd.R_reads' HO_646001.out).2.2)
      (case side2 => exact (Kd.R_reads' HO_646001.out).2.1)
      (case side3 => exact cP (Kd.R_reads' HO651.out).2.2)
      (case side4 => exact (Kd.R_reads' HO651.out).2.1)
      rintro e w35 ⟨rfl, hb⟩
      refine ⟨_, rfl, ?_⟩
      have n0_ := Aside0.mk (Kd.R_below (by exact rP HO_646001.out) hb)
      have n1_ := Aside0.mk (Kd.R_below (by exact rP HO651.out) hb)
      have n2_ := Aside0.mk (blk_below (g := gb633) (o := .cells #[.int .i64 a0_0, .slice A0_1 l0_1.length c0_1] 24 (0, 0)) (by exact kP BK633.out) hb)
      have n3_ := Aside0.mk (blk_below (g := gb645) (o := .cells #[.int .i64 t641, .slice Ao25 t642.length co25] 28 (0, 0)) (by exact kP BK645.out) hb)
      have n4_ := Aside0.mk (below_step (by exact bB) hb)
      clear HO_646001
      clear HO651
      clear BK633
      clear BK645
      clear HB
      have HO_646001 := n0_
      have HO651 := n1_
      have BK633 := n2_
      have BK645 := n3_
      have HB := n4_
      clear n0_ n1_ n2_ n3_ n4_
      (try clear hb)
      (try clear hb2)
      (try clear hk)
      (try clear hi)
      refine hK.out _ _ ⟨(blk_cell BK645.out 0).trans rfl, (blk_cell BK645.out 1).trans rfl, (blk_cell BK633.out 0).trans rfl, (blk_cell BK633.out 1).trans rfl⟩ (fun hHeld => ?_)
      clear hK K
      refine norm_ (a' := ?_) ?_ ?_
      rotate_left
      ·show Act.put _ (some 42) _ = _
       simp only [Act.put, List.setIfInBounds_toArray, List.set_cons_zero, List.set_cons_succ, i64_w, i32_w]
       rfl
      refine pure_ (i := 4) (N := some 43) (v := ?_) (a' := ?_) #[true,true,true,true,true] rfl rfl (by kernel_rfl) (fun _ _ _ h => h) (Or.inl ⟨by rfl, ?_⟩) ?_ ?_
      rotate_left
      ·intro w'
       go_simp
       with_reducible rfl
      rotate_left
      ·simp only [Act.put, List.setIfInBounds_toArray, List.set_cons_zero, List.set_cons_succ, i64_w, i32_w]
       rfl
      refine done_ (by kernel_rfl) ?_
      try go_wp2
      go_ret
      exact ⟨by first | rfl | (simp [errW_none, errW_some] <;> rfl) | (simp [*, errW_none, errW_some] <;> rfl), by exact bB⟩
     ·replace c31 := Bool.eq_false_iff.mpr c31
      subst c31
      have H1 : (some false) = some r := by rw [if_neg (show ¬ (false = true) by decide)] at H;exact H
      clear H
      have H := H1
      clear H1
      obtain rfl := Option.some.inj H
      try go_wp2
      have n0_ := Aside0.mk (Kd.R_drew HO_646001.out)
      have n1_ := Aside0.mk (blk_drew BK633.out)
      have n2_ := Aside0.mk (blk_drew BK645.out)
      have n3_ := Aside0.mk (below_drew1 HB.out)
      clear HO_646001
      clear BK633
      clear BK645
      clear HB
      have HO_646001 := n0_
      have BK633 := n1_
      have BK645 := n2_
      have HB := n3_
      clear n0_ n1_ n2_ n3_
      refine start_ (n := 5) (S := fun w' => w'.cell? ⟨gb645, 0, none⟩ = some (.int .i64 t641) ∧ w'.cell? ⟨gb645, 1, none⟩ = some (.slice Ao25 t642.length co25) ∧ w'.cell? ⟨gb633, 0, none⟩ = some (.int .i64 a0_0) ∧ w'.cell? ⟨gb633, 1, none⟩ = some (.slice A0_1 l0_1.length c0_1)) (ds := []) #[false,false,false,false,false] (by kernel_rfl) rfl rfl ⟨(blk_cell BK645.out 0).trans rfl, (blk_cell BK645.out 1).trans rfl, (blk_cell BK633.out 0).trans rfl, (blk_cell BK633.out 1).trans rfl⟩ (fun hHeld => ?_)
      generalize wc.drew = w36 at HO_646001 BK633 BK645 HB hHeld ⊢
      refine take_ (i := 0) (N := some 39) (v := ?_) (a' := ?_) #[true,false,false,false,false] rfl rfl (by kernel_rfl) (fun _ _ _ h => h) (Or.inl ⟨by rfl, ?_⟩) hHeld ?_ ?_
      rotate_left
      ·rintro w' ⟨s0, s1, s2, s3⟩
       go_simp
       with_reducible rfl
      rotate_left
      ·simp only [Act.put, List.setIfInBounds_toArray, List.set_cons_zero, List.set_cons_succ, i64_w, i32_w]
       rfl
      refine take_ (i := 1) (N := some 40) (v := ?_) (a' := ?_) #[true,true,false,false,false] rfl rfl (by kernel_rfl) (fun _ _ _ h => h) (Or.inl ⟨by rfl, ?_⟩) hHeld ?_ ?_
      rotate_left
      ·rintro w' ⟨s0, s1, s2, s3⟩
       go_simp
       with_reducible rfl
      rotate_left
      ·simp only [Act.put, List.setIfInBounds_toArray, List.set_cons_zero, List.set_cons_succ, i64_w, i32_w]
       rfl
      refine one_ (i := 2) (N := some 41) #[true,true,true,false,false] rfl rfl (by kernel_rfl) (by decide) (fun K hK => ?_)
      refine goes_ Tryd.func13 (by kernel_rfl) rfl #[.agg #[.int .i64 a0_0, .slice A0_1 l0_1.length c0_1]] (by rfl) rfl rfl mM ?_
      with_reducible refine (laws_toGraph.calls kj11 a0_0 _ _ l0_1 t648 t649 _ ?side1 ?side2 A29.out).mono ?_
      (case side1 => exact cP (Kd.C_below HR0_1.out HB.out))
      (case side2 => exact HC0_1.out)
      rintro e w37 ⟨v650, rfl, ho0, hb⟩
      refine ⟨_, rfl, ?_⟩
      have n0_ := Aside0.mk (Kd.R_elder' (by exact rP HO_646001.out) (Kd.R_base ho0) hb)
      have n1_ := Aside0.mk (Kd.R_lower (Kd.R_new' ho0 (Kd.R_lt (by exact rP HO_646001.out))) (below_size (by exact bB)))
      have n2_ := Aside0.mk (blk_below (g := gb633) (o := .cells #[.int .i64 a0_0, .slice A0_1 l0_1.length c0_1] 24 (0, 0)) (by exact kP BK633.out) hb)
      have n3_ := Aside0.mk (blk_below (g := gb645) (o := .cells #[.int .i64 t641, .slice Ao25 t642.length co25] 28 (0, 0)) (by exact kP BK645.out) hb)
      have n4_ := Aside0.mk (below_step (by exact bB) hb)
      clear HO_646001
      clear BK633
      clear BK645
      clear HB
      have HO_646001 := n0_
      have HO651 := n1_
      have BK633 := n2_
      have BK645 := n3_
      have HB := n4_
      clear n0_ n1_ n2_ n3_ n4_
      (try clear hb)
      (try clear hb2)
      (try clear hk)
      (try clear hi)
      (try clear ho0)
      obtain ⟨Ao38, co38, eo38⟩ := Kd.R_slice HO651.out
      (first | subst eo38 | (injection eo38 with f1_ f2_ f3_;have f4_ := f1_.symm;have f5_ := f3_.symm;clear f1_ f2_ f3_;subst f4_;subst f5_))
      refine hK.out _ _ ⟨(blk_cell BK645.out 0).trans rfl, (blk_cell BK645.out 1).trans rfl, (blk_cell BK633.out 0).trans rfl, (blk_cell BK633.out 1).trans rfl⟩ (fun hHeld => ?_)
      clear hK K
      refine norm_ (a' := ?_) ?_ ?_
      rotate_left
      ·show Act.put _ (some 41) _ = _
       simp only [Act.put, List.setIfInBounds_toArray, List.set_cons_zero, List.set_cons_succ, i64_w, i32_w]
       rfl
      refine one_ (i := 3) (N := some 42) #[true,true,true,true,false] rfl rfl (by kernel_rfl) (by decide) (fun K hK => ?_)
      refine goes_ Tryd.func15 (by kernel_rfl) rfl #[.agg #[.int .i64 t641, .slice Ao25 t642.length co25], .agg #[.int .i64 t648, .slice Ao38 t649.length co38]] (by rfl) rfl rfl mM ?_
      with_reducible refine (laws_eqGraph.calls kj11 t641 _ _ t642 t648 _ _ t649 false _ ?side1 ?side2 ?side3 ?side4 A30.out).mono ?_
      (case side1 => exact cP (Kd.R_reads' HO_646001.out).2.2)
      (case side2 => exact (Kd.R_reads' HO_646001.out).2.1)
      (case side3 => exact cP (Kd.R_reads' HO651.out).2.2)
      (case side4 => exact (Kd.R_reads' HO651.out).2.1)
      rintro e w39 ⟨rfl, hb⟩
      refine ⟨_, rfl, ?_⟩
      have n0_ := Aside0.mk (Kd.R_below (by exact rP HO_646001.out) hb)
      have n1_ := Aside0.mk (Kd.R_below (by exact rP HO651.out) hb)
      have n2_ := Aside0.mk (blk_below (g := gb633) (o := .cells #[.int .i64 a0_0, .slice A0_1 l0_1.length c0_1] 24 (0, 0)) (by exact kP BK633.out) hb)
      have n3_ := Aside0.mk (blk_below (g := gb645) (o := .cells #[.int .i64 t641, .slice Ao25 t642.length co25] 28 (0, 0)) (by exact kP BK645.out) hb)
      have n4_ := Aside0.mk (below_step (by exact bB) hb)
      clear HO_646001
      clear HO651
      clear BK633
      clear BK645
      clear HB
      have HO_646001 := n0_
      have HO651 := n1_
      have BK633 := n2_
      have BK645 := n3_
      have HB := n4_
      clear n0_ n1_ n2_ n3_ n4_
      (try clear hb)
      (try clear hb2)
      (try clear hk)
      (try clear hi)
      refine hK.out _ _ ⟨(blk_cell BK645.out 0).trans rfl, (blk_cell BK645.out 1).trans rfl, (blk_cell BK633.out 0).trans rfl, (blk_cell BK633.out 1).trans rfl⟩ (fun hHeld => ?_)
      clear hK K
      refine norm_ (a' := ?_) ?_ ?_
      rotate_left
      ·show Act.put _ (some 42) _ = _
       simp only [Act.put, List.setIfInBounds_toArray, List.set_cons_zero, List.set_cons_succ, i64_w, i32_w]
       rfl
      refine pure_ (i := 4) (N := some 43) (v := ?_) (a' := ?_) #[true,true,true,true,true] rfl rfl (by kernel_rfl) (fun _ _ _ h => h) (Or.inl ⟨by rfl, ?_⟩) ?_ ?_
      rotate_left
      ·intro w'
       go_simp
       with_reducible rfl
      rotate_left
      ·simp only [Act.put, List.setIfInBounds_toArray, List.set_cons_zero, List.set_cons_succ, i64_w, i32_w]
       rfl
      refine done_ (by kernel_rfl) ?_
      try go_wp2
      go_ret
      exact ⟨by first | rfl | (simp [errW_none, errW_some] <;> rfl) | (simp [*, errW_none, errW_some] <;> rfl), by exact bB⟩


end Go.Proofs.YthbjajppdomhhaaDoor.QEternalNumber
