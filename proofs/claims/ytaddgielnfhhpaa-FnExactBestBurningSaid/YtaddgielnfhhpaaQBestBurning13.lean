import Derived.Test.YtaddgielnfhhpaaQBestBurning0
import Derived.Test.YtaddgielnfhhpaaQBestBurning1
import Derived.Test.YtaddgielnfhhpaaQBestBurning2
import Derived.Test.YtaddgielnfhhpaaQBestBurning9
import Derived.Test.YtaddgielnfhhpaaQBestBurning12
namespace Go.Proofs.Ytaddgielnfhhpaa.QBestBurning
open Go.RowKit Go.Proofs.YtaddgielnfhhpaaW.PrintWords Go.Proofs.YtaddgielnfhhpaaW.PrintLast Go.Proofs.YtaddgielnfhhpaaW.PrintMore
attribute [local go_sem] max2_int min2_int max_two min_two max_three min_three max_four min_four   -- for this text's walks alone
set_option linter.unusedVariables false
set_option linter.unusedSimpArgs false
/-! ### laws_FnExactBestBurning: function 6 -/
mutual
def laws_FnExactBestBurning.j0 : Nat → List Int → Bool → List Int → Bool → Bool → Int → List (S80) → Int → List (S80) → Option (Bool)
 | 0, _, _, _, _, _, _, _, _, _ => none
 | k + 1, x4, x5, x7, x8, x40, x360000, x360001, x374000, x374001 => if x40 = true then (some false) else ((laws_toGraph.f k x360000 x360001).bind fun bt379 => ((laws_eqGraph.f k x374000 x374001 bt379.1 bt379.2).bind fun t383 => (if t383 = true then ((laws_markGraph.f x374000 x374001 1).bind fun bt384 => (if bt384.1 < 0 then (laws_FnExactBestBurning.j1 k x4 x5 x7 true x360000 x360001) else ((laws_eqIntS.f k x7 x4).bind fun t386 => (if t386 = true then (laws_FnExactBestBurning.j1 k x4 x5 x7 (x8 != x5) x360000 x360001) else (laws_FnExactBestBurning.j1 k x4 x5 x7 true x360000 x360001))))) else (some false))))
def laws_FnExactBestBurning.j1 : Nat → List Int → Bool → List Int → Bool → Int → List (S80) → Option (Bool)
 | 0, _, _, _, _, _, _ => none
 | k + 1, x4, x5, x7, x61, x360000, x360001 => if x61 = true then (some false) else ((laws_markIntS.f k x7 1).bind fun bt387 => ((laws_heldIntS.f k bt387.2 1).bind fun t389 => (if t389 < 0 then (some false) else (if t389 = bt387.1 then ((laws_toGraph.f k x360000 x360001).bind fun bt390 => ((impl_BestBurning.f k bt390.1 bt390.2).bind fun bt394 => ((laws_eqIntS.f k bt394.1 x4).bind fun t398 => (if t398 = true then (laws_FnExactBestBurning.j2 k bt387.2 bt387.1 (bt394.2 != x5)) else (laws_FnExactBestBurning.j2 k bt387.2 bt387.1 true))))) else (some false)))))
def laws_FnExactBestBurning.j2 : Nat → List Int → Int → Bool → Option (Bool)
 | 0, _, _, _ => none
 | k + 1, x7, x10, x87 => if x87 = true then (some false) else ((laws_heldIntS.f k x7 1).bind fun t399 => (if t399 < 0 then (some false) else (if t399 = x10 then (some true) else (some false))))
end
def laws_FnExactBestBurning.f (k : Nat) (a0_0 : Int) (l0_1 : List (S80)) : Option (Bool) := (laws_szGraph.f a0_0 l0_1 1048576).bind fun t360 => (if t360 < 0 then (some true) else ((laws_toGraph.f k a0_0 l0_1).bind fun bt361 => ((spec_BestBurning.f k bt361.1 bt361.2).bind fun bt365 => ((laws_toGraph.f k a0_0 l0_1).bind fun bt369 => ((impl_BestBurning.f k bt369.1 bt369.2).bind fun bt374 => ((laws_eqIntS.f k bt374.1 bt365.1).bind fun t378 => (if t378 = true then (laws_FnExactBestBurning.j0 k bt365.1 bt365.2 bt374.1 bt374.2 (bt374.2 != bt365.2) a0_0 l0_1 bt369.1 bt369.2) else (laws_FnExactBestBurning.j0 k bt365.1 bt365.2 bt374.1 bt374.2 true a0_0 l0_1 bt369.1 bt369.2))))))))
theorem laws_FnExactBestBurning.mono_l : ∀ k, (∀ y0 y1 y2 y3 y4 y5 y6 y7 y8, LeO (laws_FnExactBestBurning.j0 k y0 y1 y2 y3 y4 y5 y6 y7 y8) (laws_FnExactBestBurning.j0 (k + 1) y0 y1 y2 y3 y4 y5 y6 y7 y8)) ∧ (∀ y0 y1 y2 y3 y4 y5, LeO (laws_FnExactBestBurning.j1 k y0 y1 y2 y3 y4 y5) (laws_FnExactBestBurning.j1 (k + 1) y0 y1 y2 y3 y4 y5)) ∧ (∀ y0 y1 y2, LeO (laws_FnExactBestBurning.j2 k y0 y1 y2) (laws_FnExactBestBurning.j2 (k + 1) y0 y1 y2))
 | 0 => ⟨fun _ _ _ _ _ _ _ _ _ r h => by simp [laws_FnExactBestBurning.j0] at h, fun _ _ _ _ _ _ r h => by simp [laws_FnExactBestBurning.j1] at h, fun _ _ _ r h => by simp [laws_FnExactBestBurning.j2] at h⟩
 | k + 1 => by
  obtain ⟨ih0, ih1, ih2⟩ := laws_FnExactBestBurning.mono_l k
  refine ⟨?_, ?_, ?_⟩
  ·intro y0 y1 y2 y3 y4 y5 y6 y7 y8
   unfold laws_FnExactBestBurning.j0
   repeat' first
   | (with_reducible exact ih0 _ _ _ _ _ _ _ _ _)
   | (with_reducible exact ih1 _ _ _ _ _ _)
   | (with_reducible exact ih2 _ _ _)
   | (with_reducible exact impl_BestBurning.mono _ _ _)
   | (with_reducible exact laws_eqGraph.mono _ _ _ _ _)
   | (with_reducible exact laws_eqIntS.mono _ _ _)
   | (with_reducible exact laws_heldIntS.mono _ _ _)
   | (with_reducible exact laws_markIntS.mono _ _ _)
   | (with_reducible exact laws_toGraph.mono _ _ _)
   | (with_reducible exact spec_BestBurning.mono _ _ _)
   | (with_reducible exact LeO.refl _)
   | (with_reducible exact LeO.none _)
   | (with_reducible refine LeO.ite ?_ ?_)
   | (with_reducible refine LeO.bind ?_ (fun _ => ?_))
   | exact ih0 _ _ _ _ _ _ _ _ _
   | exact ih1 _ _ _ _ _ _
   | exact ih2 _ _ _
   | exact impl_BestBurning.mono _ _ _
   | exact laws_eqGraph.mono _ _ _ _ _
   | exact laws_eqIntS.mono _ _ _
   | exact laws_heldIntS.mono _ _ _
   | exact laws_markIntS.mono _ _ _
   | exact laws_toGraph.mono _ _ _
   | exact spec_BestBurning.mono _ _ _
   | exact LeO.none _
   | refine LeO.ite ?_ ?_
   | refine LeO.bind ?_ (fun _ => ?_)
  ·intro y0 y1 y2 y3 y4 y5
   unfold laws_FnExactBestBurning.j1
   repeat' first
   | (with_reducible exact ih0 _ _ _ _ _ _ _ _ _)
   | (with_reducible exact ih1 _ _ _ _ _ _)
   | (with_reducible exact ih2 _ _ _)
   | (with_reducible exact impl_BestBurning.mono _ _ _)
   | (with_reducible exact laws_eqGraph.mono _ _ _ _ _)
   | (with_reducible exact laws_eqIntS.mono _ _ _)
   | (with_reducible exact laws_heldIntS.mono _ _ _)
   | (with_reducible exact laws_markIntS.mono _ _ _)
   | (with_reducible exact laws_toGraph.mono _ _ _)
   | (with_reducible exact spec_BestBurning.mono _ _ _)
   | (with_reducible exact LeO.refl _)
   | (with_reducible exact LeO.none _)
   | (with_reducible refine LeO.ite ?_ ?_)
   | (with_reducible refine LeO.bind ?_ (fun _ => ?_))
   | exact ih0 _ _ _ _ _ _ _ _ _
   | exact ih1 _ _ _ _ _ _
   | exact ih2 _ _ _
   | exact impl_BestBurning.mono _ _ _
   | exact laws_eqGraph.mono _ _ _ _ _
   | exact laws_eqIntS.mono _ _ _
   | exact laws_heldIntS.mono _ _ _
   | exact laws_markIntS.mono _ _ _
   | exact laws_toGraph.mono _ _ _
   | exact spec_BestBurning.mono _ _ _
   | exact LeO.none _
   | refine LeO.ite ?_ ?_
   | refine LeO.bind ?_ (fun _ => ?_)
  ·intro y0 y1 y2
   unfold laws_FnExactBestBurning.j2
   repeat' first
   | (with_reducible exact ih0 _ _ _ _ _ _ _ _ _)
   | (with_reducible exact ih1 _ _ _ _ _ _)
   | (with_reducible exact ih2 _ _ _)
   | (with_reducible exact impl_BestBurning.mono _ _ _)
   | (with_reducible exact laws_eqGraph.mono _ _ _ _ _)
   | (with_reducible exact laws_eqIntS.mono _ _ _)
   | (with_reducible exact laws_heldIntS.mono _ _ _)
   | (with_reducible exact laws_markIntS.mono _ _ _)
   | (with_reducible exact laws_toGraph.mono _ _ _)
   | (with_reducible exact spec_BestBurning.mono _ _ _)
   | (with_reducible exact LeO.refl _)
   | (with_reducible exact LeO.none _)
   | (with_reducible refine LeO.ite ?_ ?_)
   | (with_reducible refine LeO.bind ?_ (fun _ => ?_))
   | exact ih0 _ _ _ _ _ _ _ _ _
   | exact ih1 _ _ _ _ _ _
   | exact ih2 _ _ _
   | exact impl_BestBurning.mono _ _ _
   | exact laws_eqGraph.mono _ _ _ _ _
   | exact laws_eqIntS.mono _ _ _
   | exact laws_heldIntS.mono _ _ _
   | exact laws_markIntS.mono _ _ _
   | exact laws_toGraph.mono _ _ _
   | exact spec_BestBurning.mono _ _ _
   | exact LeO.none _
   | refine LeO.ite ?_ ?_
   | refine LeO.bind ?_ (fun _ => ?_)
theorem laws_FnExactBestBurning.mono : ∀ a0 a1 k, LeO (laws_FnExactBestBurning.f k a0 a1) (laws_FnExactBestBurning.f (k + 1) a0 a1) := by
 intro a0 a1 k
 obtain ⟨ih0, ih1, ih2⟩ := laws_FnExactBestBurning.mono_l k
 unfold laws_FnExactBestBurning.f
 repeat' first
   | (with_reducible exact ih0 _ _ _ _ _ _ _ _ _)
   | (with_reducible exact ih1 _ _ _ _ _ _)
   | (with_reducible exact ih2 _ _ _)
   | (with_reducible exact impl_BestBurning.mono _ _ _)
   | (with_reducible exact laws_eqGraph.mono _ _ _ _ _)
   | (with_reducible exact laws_eqIntS.mono _ _ _)
   | (with_reducible exact laws_heldIntS.mono _ _ _)
   | (with_reducible exact laws_markIntS.mono _ _ _)
   | (with_reducible exact laws_toGraph.mono _ _ _)
   | (with_reducible exact spec_BestBurning.mono _ _ _)
   | (with_reducible exact LeO.refl _)
   | (with_reducible exact LeO.none _)
   | (with_reducible refine LeO.ite ?_ ?_)
   | (with_reducible refine LeO.bind ?_ (fun _ => ?_))
   | exact ih0 _ _ _ _ _ _ _ _ _
   | exact ih1 _ _ _ _ _ _
   | exact ih2 _ _ _
   | exact impl_BestBurning.mono _ _ _
   | exact laws_eqGraph.mono _ _ _ _ _
   | exact laws_eqIntS.mono _ _ _
   | exact laws_heldIntS.mono _ _ _
   | exact laws_markIntS.mono _ _ _
   | exact laws_toGraph.mono _ _ _
   | exact spec_BestBurning.mono _ _ _
   | exact LeO.none _
   | refine LeO.ite ?_ ?_
   | refine LeO.bind ?_ (fun _ => ?_)
set_option maxHeartbeats 8000000 in
set_option maxRecDepth 100000 in
theorem laws_FnExactBestBurning.calls (k : Nat) (a0_0 : Int) (A0_1 : Option Addr) (c0_1 : Nat) (l0_1 : List (S80)) (r : Bool) (w : World) (hr0_1 : Kd.C k80 w A0_1 l0_1.length l0_1) (hc0_1 : l0_1.length ≤ c0_1) (h : laws_FnExactBestBurning.f k a0_0 l0_1 = some r) :
  Calls Try.prog 6 #[.agg #[.int .i64 a0_0, .slice A0_1 l0_1.length c0_1]] w fun e w' => e = .returned (.bool r) ∧ Below w.heap.size w w' := by
 have hu24 := Try.underlying24
 have hu29 := Try.underlying29
 have HR0_1 := Aside0.mk hr0_1
 have HC0_1 := Aside0.mk hc0_1
 clear hr0_1 hc0_1
 have HB := Aside0.mk (Below.refl w.heap.size w)
 have H : ((laws_szGraph.f a0_0 l0_1 1048576).bind fun t360 => (if t360 < 0 then (some true) else ((laws_toGraph.f k a0_0 l0_1).bind fun bt361 => ((spec_BestBurning.f k bt361.1 bt361.2).bind fun bt365 => ((laws_toGraph.f k a0_0 l0_1).bind fun bt369 => ((impl_BestBurning.f k bt369.1 bt369.2).bind fun bt374 => ((laws_eqIntS.f k bt374.1 bt365.1).bind fun t378 => (if t378 = true then (laws_FnExactBestBurning.j0 k bt365.1 bt365.2 bt374.1 bt374.2 (bt374.2 != bt365.2) a0_0 l0_1 bt369.1 bt369.2) else (laws_FnExactBestBurning.j0 k bt365.1 bt365.2 bt374.1 bt374.2 true a0_0 l0_1 bt369.1 bt369.2))))))))) = some r := h
 clear h
 replace H := Option.bind_eq_some_iff.mp H
 obtain ⟨t360, A20, H⟩ := H
 replace H : (if t360 < 0 then (some true) else ((laws_toGraph.f k a0_0 l0_1).bind fun bt361 => ((spec_BestBurning.f k bt361.1 bt361.2).bind fun bt365 => ((laws_toGraph.f k a0_0 l0_1).bind fun bt369 => ((impl_BestBurning.f k bt369.1 bt369.2).bind fun bt374 => ((laws_eqIntS.f k bt374.1 bt365.1).bind fun t378 => (if t378 = true then (laws_FnExactBestBurning.j0 k bt365.1 bt365.2 bt374.1 bt374.2 (bt374.2 != bt365.2) a0_0 l0_1 bt369.1 bt369.2) else (laws_FnExactBestBurning.j0 k bt365.1 bt365.2 bt374.1 bt374.2 true a0_0 l0_1 bt369.1 bt369.2)))))))) = some r := H
 have A2 := Aside0.mk A20
 clear A20
 by_cases c3 : t360 < 0
 ·rw [if_pos c3] at H
  have c3b0 : decide (t360 < 0) = true := decide_eq_true c3
  clear c3
  obtain rfl := Option.some.inj H
  go_enter Try.func6, Try.ntmps6
  go_wp2_with (first | ((with_reducible refine gate_dst (N := 1) rfl ?_);refine box_event ?hg (N := 1) ?hd (cs := #[.int .i64 a0_0, .slice A0_1 l0_1.length c0_1]) (t := 24) ?hr ?_;(case hd => rfl);(case hg => rfl);(case hr => first | (go_simp;done) | (go_simp;rfl));intro gb359 hg w4 hbox hb;have n0_ := Aside0.mk (below_step (by exact bB) hb);have n1_ := Aside0.mk (hbox);have n2_ := Aside0.mk ((by rw [hg];exact (below_size (by exact bB)) : w.heap.size ≤ gb359));have n3_ := Aside0.mk ((by rw [hg];exact (below_size (by exact bB)) : w.heap.size ≤ gb359));clear HB;have HB := n0_;have BK359 := n1_;have GW359 := n2_;have GE359 := n3_;clear n0_ n1_ n2_ n3_;clear hb hbox hg;have hcz5_0 : w4.cell? ⟨gb359, 0, none⟩ = some (.int .i64 a0_0) := (blk_cell BK359.out 0).trans rfl;have hcz5_1 : w4.cell? ⟨gb359, 1, none⟩ = some (.slice A0_1 l0_1.length c0_1) := (blk_cell BK359.out 1).trans rfl;have hfz5_0 := blk_frozen BK359.out 0;have hfz5_1 := blk_frozen BK359.out 1) | ((with_reducible refine gate_callee (f := 9) rfl ?_);refine goesL_ (some 16) rfl rfl Try.func9 (by kernel_rfl) rfl #[.agg #[.int .i64 a0_0, .slice A0_1 l0_1.length c0_1], .int .i64 1048576] rfl mM ?_;(with_reducible refine (laws_szGraph.calls a0_0 _ _ l0_1 1048576 t360 _ ?side1 ?side2 A2.out).mono ?_);(case side1 => exact cP (Kd.C_below HR0_1.out HB.out));(case side2 => exact HC0_1.out);rintro e w6 ⟨rfl, hb⟩;refine ⟨_, rfl, ?_⟩;have n0_ := Aside0.mk (blk_below (g := gb359) (o := .cells #[.int .i64 a0_0, .slice A0_1 l0_1.length c0_1] 24 (0, 0)) (by exact kP BK359.out) hb);have n1_ := Aside0.mk (below_step (by exact bB) hb);clear BK359;clear HB;have BK359 := n0_;have HB := n1_;clear n0_ n1_;(try clear hb);(try clear hb2);(try clear hk);(try clear hi)))
  go_ret
  exact ⟨by first | rfl | (simp [errW_none, errW_some] <;> rfl) | (simp [*, errW_none, errW_some] <;> rfl), by exact bB⟩
 ·rw [if_neg c3] at H
  have c3b0 : decide (t360 < 0) = false := decide_eq_false c3
  clear c3
  replace H := Option.bind_eq_some_iff.mp H
  obtain ⟨⟨t361, t362⟩, A70, H⟩ := H
  replace H : ((spec_BestBurning.f k t361 t362).bind fun bt365 => ((laws_toGraph.f k a0_0 l0_1).bind fun bt369 => ((impl_BestBurning.f k bt369.1 bt369.2).bind fun bt374 => ((laws_eqIntS.f k bt374.1 bt365.1).bind fun t378 => (if t378 = true then (laws_FnExactBestBurning.j0 k bt365.1 bt365.2 bt374.1 bt374.2 (bt374.2 != bt365.2) a0_0 l0_1 bt369.1 bt369.2) else (laws_FnExactBestBurning.j0 k bt365.1 bt365.2 bt374.1 bt374.2 true a0_0 l0_1 bt369.1 bt369.2)))))) = some r := H
  have A7 := Aside0.mk A70
  clear A70
  replace H := Option.bind_eq_some_iff.mp H
  obtain ⟨⟨t365, t368⟩, A80, H⟩ := H
  replace H : ((laws_toGraph.f k a0_0 l0_1).bind fun bt369 => ((impl_BestBurning.f k bt369.1 bt369.2).bind fun bt374 => ((laws_eqIntS.f k bt374.1 t365).bind fun t378 => (if t378 = true then (laws_FnExactBestBurning.j0 k t365 t368 bt374.1 bt374.2 (bt374.2 != t368) a0_0 l0_1 bt369.1 bt369.2) else (laws_FnExactBestBurning.j0 k t365 t368 bt374.1 bt374.2 true a0_0 l0_1 bt369.1 bt369.2))))) = some r := H
  have A8 := Aside0.mk A80
  clear A80
  replace H := Option.bind_eq_some_iff.mp H
  obtain ⟨⟨t369, t370⟩, A90, H⟩ := H
  replace H : ((impl_BestBurning.f k t369 t370).bind fun bt374 => ((laws_eqIntS.f k bt374.1 t365).bind fun t378 => (if t378 = true then (laws_FnExactBestBurning.j0 k t365 t368 bt374.1 bt374.2 (bt374.2 != t368) a0_0 l0_1 t369 t370) else (laws_FnExactBestBurning.j0 k t365 t368 bt374.1 bt374.2 true a0_0 l0_1 t369 t370)))) = some r := H
  have A9 := Aside0.mk A90
  clear A90
  replace H := Option.bind_eq_some_iff.mp H
  obtain ⟨⟨t374, t377⟩, A100, H⟩ := H
  replace H : ((laws_eqIntS.f k t374 t365).bind fun t378 => (if t378 = true then (laws_FnExactBestBurning.j0 k t365 t368 t374 t377 (t377 != t368) a0_0 l0_1 t369 t370) else (laws_FnExactBestBurning.j0 k t365 t368 t374 t377 true a0_0 l0_1 t369 t370))) = some r := H
  have A10 := Aside0.mk A100
  clear A100
  have HC11 := Aside0.mk H
  clear H
  go_enter Try.func6, Try.ntmps6
  go_upto_region 8 with (first | ((with_reducible refine gate_dst (N := 1) rfl ?_);refine box_event ?hg (N := 1) ?hd (cs := #[.int .i64 a0_0, .slice A0_1 l0_1.length c0_1]) (t := 24) ?hr ?_;(case hd => rfl);(case hg => rfl);(case hr => first | (go_simp;done) | (go_simp;rfl));intro gb359 hg w12 hbox hb;have n0_ := Aside0.mk (below_step (by exact bB) hb);have n1_ := Aside0.mk (hbox);have n2_ := Aside0.mk ((by rw [hg];exact (below_size (by exact bB)) : w.heap.size ≤ gb359));have n3_ := Aside0.mk ((by rw [hg];exact (below_size (by exact bB)) : w.heap.size ≤ gb359));clear HB;have HB := n0_;have BK359 := n1_;have GW359 := n2_;have GE359 := n3_;clear n0_ n1_ n2_ n3_;clear hb hbox hg;have hcz13_0 : w12.cell? ⟨gb359, 0, none⟩ = some (.int .i64 a0_0) := (blk_cell BK359.out 0).trans rfl;have hcz13_1 : w12.cell? ⟨gb359, 1, none⟩ = some (.slice A0_1 l0_1.length c0_1) := (blk_cell BK359.out 1).trans rfl;have hfz13_0 := blk_frozen BK359.out 0;have hfz13_1 := blk_frozen BK359.out 1) | ((with_reducible refine gate_callee (f := 9) rfl ?_);refine goesL_ (some 16) rfl rfl Try.func9 (by kernel_rfl) rfl #[.agg #[.int .i64 a0_0, .slice A0_1 l0_1.length c0_1], .int .i64 1048576] rfl mM ?_;(with_reducible refine (laws_szGraph.calls a0_0 _ _ l0_1 1048576 t360 _ ?side1 ?side2 A2.out).mono ?_);(case side1 => exact cP (Kd.C_below HR0_1.out HB.out));(case side2 => exact HC0_1.out);rintro e w14 ⟨rfl, hb⟩;refine ⟨_, rfl, ?_⟩;have n0_ := Aside0.mk (blk_below (g := gb359) (o := .cells #[.int .i64 a0_0, .slice A0_1 l0_1.length c0_1] 24 (0, 0)) (by exact kP BK359.out) hb);have n1_ := Aside0.mk (below_step (by exact bB) hb);clear BK359;clear HB;have BK359 := n0_;have HB := n1_;clear n0_ n1_;(try clear hb);(try clear hb2);(try clear hk);(try clear hi);have hcz15_0 : w14.cell? ⟨gb359, 0, none⟩ = some (.int .i64 a0_0) := (blk_cell BK359.out 0).trans rfl;have hcz15_1 : w14.cell? ⟨gb359, 1, none⟩ = some (.slice A0_1 l0_1.length c0_1) := (blk_cell BK359.out 1).trans rfl;have hfz15_0 := blk_frozen BK359.out 0;have hfz15_1 := blk_frozen BK359.out 1) | ((with_reducible refine gate_callee (f := 11) rfl ?_);refine goesL_ (some 21) rfl rfl Try.func11 (by kernel_rfl) rfl #[.agg #[.int .i64 a0_0, .slice A0_1 l0_1.length c0_1]] rfl mM ?_;(with_reducible refine (laws_toGraph.calls k a0_0 _ _ l0_1 t361 t362 _ ?side1 ?side2 A7.out).mono ?_);(case side1 => exact cP (Kd.C_below HR0_1.out HB.out));(case side2 => exact HC0_1.out);rintro e w16 ⟨v363, rfl, ho0, hb⟩;refine ⟨_, rfl, ?_⟩;have n0_ := Aside0.mk (Kd.R_lower ho0 (below_size (by exact bB)));have n1_ := Aside0.mk (blk_below (g := gb359) (o := .cells #[.int .i64 a0_0, .slice A0_1 l0_1.length c0_1] 24 (0, 0)) (by exact kP BK359.out) hb);have n2_ := Aside0.mk (below_step (by exact bB) hb);clear BK359;clear HB;have HO364 := n0_;have BK359 := n1_;have HB := n2_;clear n0_ n1_ n2_;(try clear hb);(try clear hb2);(try clear hk);(try clear hi);(try clear ho0);obtain ⟨Ao17, co17, eo17⟩ := Kd.R_slice HO364.out;subst eo17) | ((with_reducible refine gate_callee (f := 24) rfl ?_);refine goesL_ (some 22) rfl rfl Try.func24 (by kernel_rfl) rfl #[.agg #[.int .i64 t361, .slice Ao17 t362.length co17]] rfl mM ?_;(with_reducible refine (spec_BestBurning.calls k t361 _ _ t362 t365 t368 _ ?side1 ?side2 A8.out).mono ?_);(case side1 => exact cP (Kd.R_reads' HO364.out).2.2);(case side2 => exact (Kd.R_reads' HO364.out).2.1);rintro e w18 ⟨v366, rfl, ho0, hb⟩;refine ⟨_, rfl, ?_⟩;have n0_ := Aside0.mk (Kd.R_below (by exact rP HO364.out) hb);have n1_ := Aside0.mk (Kd.R_lower ho0 (below_size (by exact bB)));have n2_ := Aside0.mk (blk_below (g := gb359) (o := .cells #[.int .i64 a0_0, .slice A0_1 l0_1.length c0_1] 24 (0, 0)) (by exact kP BK359.out) hb);have n3_ := Aside0.mk (below_step (by exact bB) hb);clear HO364;clear BK359;clear HB;have HO364 := n0_;have HO367 := n1_;have BK359 := n2_;have HB := n3_;clear n0_ n1_ n2_ n3_;(try clear hb);(try clear hb2);(try clear hk);(try clear hi);(try clear ho0);have hcz19_0 : w18.cell? ⟨gb359, 0, none⟩ = some (.int .i64 a0_0) := (blk_cell BK359.out 0).trans rfl;have hcz19_1 : w18.cell? ⟨gb359, 1, none⟩ = some (.slice A0_1 l0_1.length c0_1) := (blk_cell BK359.out 1).trans rfl;have hfz19_0 := blk_frozen BK359.out 0;have hfz19_1 := blk_frozen BK359.out 1) | ((with_reducible refine gate_callee (f := 11) rfl ?_);refine goesL_ (some 26) rfl rfl Try.func11 (by kernel_rfl) rfl #[.agg #[.int .i64 a0_0, .slice A0_1 l0_1.length c0_1]] rfl mM ?_;(with_reducible refine (laws_toGraph.calls k a0_0 _ _ l0_1 t369 t370 _ ?side1 ?side2 A9.out).mono ?_);(case side1 => exact cP (Kd.C_below HR0_1.out HB.out));(case side2 => exact HC0_1.out);rintro e w20 ⟨v371, rfl, ho0, hb⟩;refine ⟨_, rfl, ?_⟩;have n0_ := Aside0.mk (Kd.R_elder' (by exact rP HO364.out) (Kd.R_base ho0) hb);have n1_ := Aside0.mk (Kd.R_below (by exact rP HO367.out) hb);have n2_ := Aside0.mk (Kd.R_lower (Kd.R_new' ho0 (Kd.R_lt (by exact rP HO364.out))) (below_size (by exact bB)));have n3_ := Aside0.mk (blk_below (g := gb359) (o := .cells #[.int .i64 a0_0, .slice A0_1 l0_1.length c0_1] 24 (0, 0)) (by exact kP BK359.out) hb);have n4_ := Aside0.mk (below_step (by exact bB) hb);clear HO364;clear HO367;clear BK359;clear HB;have HO364 := n0_;have HO367 := n1_;have HO372 := n2_;have BK359 := n3_;have HB := n4_;clear n0_ n1_ n2_ n3_ n4_;(try clear hb);(try clear hb2);(try clear hk);(try clear hi);(try clear ho0)) | ((with_reducible refine gate_dst (N := 6) rfl ?_);refine box_event ?hg (N := 6) ?hd (cs := #[.int .i64 0, .slice none 0 0]) (t := 29) ?hr ?_;(case hd => rfl);(case hg => rfl);(case hr => first | (go_simp;done) | (go_simp;rfl));intro gb373 hg w21 hbox hb;have n0_ := Aside0.mk (Kd.R_below (by exact rP HO364.out) hb);have n1_ := Aside0.mk (Kd.R_below (by exact rP HO367.out) hb);have n2_ := Aside0.mk (Kd.R_below (by exact rP HO372.out) hb);have n3_ := Aside0.mk (blk_below (g := gb359) (o := .cells #[.int .i64 a0_0, .slice A0_1 l0_1.length c0_1] 24 (0, 0)) (by exact kP BK359.out) hb);have n4_ := Aside0.mk (below_step (by exact bB) hb);have n5_ := Aside0.mk (hbox);have n6_ := Aside0.mk ((by rw [hg];exact (below_size (by exact bB)) : w.heap.size ≤ gb373));have n7_ := Aside0.mk ((by rw [hg];exact (below_size (by exact bB)) : w.heap.size ≤ gb373));have n8_ := Aside0.mk ((by rw [hg];exact Nat.ne_of_lt (blk_lt (g := gb359) (o := .cells #[.int .i64 a0_0, .slice A0_1 l0_1.length c0_1] 24 (0, 0)) (by exact kP BK359.out)) : gb359 ≠ gb373));have n9_ := Aside0.mk ((by rw [hg];exact Nat.ne_of_gt (blk_lt (g := gb359) (o := .cells #[.int .i64 a0_0, .slice A0_1 l0_1.length c0_1] 24 (0, 0)) (by exact kP BK359.out)) : gb373 ≠ gb359));clear HO364;clear HO367;clear HO372;clear BK359;clear HB;have HO364 := n0_;have HO367 := n1_;have HO372 := n2_;have BK359 := n3_;have HB := n4_;have BK373 := n5_;have GW373 := n6_;have GE373 := n7_;have NB359_373 := n8_;have NB373_359 := n9_;clear n0_ n1_ n2_ n3_ n4_ n5_ n6_ n7_ n8_ n9_;clear hb hbox hg;have hnb22 := NB373_359.out;have hnc22 := NB359_373.out;have hcz23_0 : w21.cell? ⟨gb373, 0, none⟩ = some (.int .i64 0) := (blk_cell BK373.out 0).trans rfl;have hcz23_1 : w21.cell? ⟨gb373, 1, none⟩ = some (.slice none 0 0) := (blk_cell BK373.out 1).trans rfl;have hfz23_0 := blk_frozen BK373.out 0;have hfz23_1 := blk_frozen BK373.out 1;obtain ⟨Ao24, co24, eo24⟩ := Kd.R_slice HO372.out;subst eo24) | ((with_reducible refine gate_callee (f := 25) rfl ?_);refine goesL_ (some 29) rfl rfl Try.func25 (by kernel_rfl) rfl #[.agg #[.int .i64 t369, .slice Ao24 t370.length co24]] rfl mM ?_;(with_reducible refine (impl_BestBurning.calls k t369 _ _ t370 t374 t377 _ ?side1 ?side2 A10.out).mono ?_);(case side1 => refine (Kd.R_reads' (e := 80) (base := w.heap.size) (ok := fun k_ => (True ∧ some k_ ≠ (.slice Ao17 t362.length co17 : Value).ownBlock)) (n := t370.length) (c := co24) ?_).2.2;exact (by refine rP ?_;exact (Kd.R_mono (Kd.R_far (p := ⟨gb373, 1, none⟩) (Kd.R_far (p := ⟨gb373, 0, none⟩) (Kd.R_types HO372.out BK373.out (by decide)) (fun _ hk => hk.2) (.int .i64 t369)) (fun _ hk => hk.2) (.slice Ao24 t370.length co24)) (fun _ h_ => h_.1))));(case side2 => exact (Kd.R_reads' HO372.out).2.1);rintro e w25 ⟨v375, rfl, ho0, hb⟩;refine ⟨_, rfl, ?_⟩;have n0_ := Aside0.mk (Kd.R_below (by exact rP ((Kd.R_mono (Kd.R_far (p := ⟨gb373, 1, none⟩) (Kd.R_far (p := ⟨gb373, 0, none⟩) (Kd.R_types HO364.out BK373.out (by decide)) (fun _ hk => hk.2) (.int .i64 t369)) (fun _ hk => hk.2) (.slice Ao24 t370.length co24)) (fun _ h_ => h_.1)))) hb);have n1_ := Aside0.mk (Kd.R_elder' (by exact rP ((Kd.R_mono (Kd.R_far (p := ⟨gb373, 1, none⟩) (Kd.R_far (p := ⟨gb373, 0, none⟩) (Kd.R_types HO367.out BK373.out (by decide)) (fun _ hk => hk.2) (.int .i64 t369)) (fun _ hk => hk.2) (.slice Ao24 t370.length co24)) (fun _ h_ => h_.1)))) (Kd.R_base ho0) hb);have n2_ := Aside0.mk (Kd.R_below (by exact rP ((Kd.R_mono (Kd.R_far (p := ⟨gb373, 1, none⟩) (Kd.R_far (p := ⟨gb373, 0, none⟩) (Kd.R_types HO372.out BK373.out (by decide)) (fun _ hk => hk.2) (.int .i64 t369)) (fun _ hk => hk.2) (.slice Ao24 t370.length co24)) (fun _ h_ => h_.1)))) hb);have n3_ := Aside0.mk (Kd.R_lower (Kd.R_new' ho0 (Kd.R_lt (by exact rP ((Kd.R_mono (Kd.R_far (p := ⟨gb373, 1, none⟩) (Kd.R_far (p := ⟨gb373, 0, none⟩) (Kd.R_types HO367.out BK373.out (by decide)) (fun _ hk => hk.2) (.int .i64 t369)) (fun _ hk => hk.2) (.slice Ao24 t370.length co24)) (fun _ h_ => h_.1)))))) (below_size (by exact bB)));have n4_ := Aside0.mk (blk_below (g := gb359) (o := .cells #[.int .i64 a0_0, .slice A0_1 l0_1.length c0_1] 24 (0, 0)) (by refine kP ?_;refine blk_far ?_ NB359_373.out _;refine kP ?_;refine blk_far ?_ NB359_373.out _;exact kP BK359.out) hb);have n5_ := Aside0.mk (blk_below (g := gb373) (o := .cells #[.int .i64 t369, .slice Ao24 t370.length co24] 29 (0, 0)) (by refine kP ?_;refine blk_put (cs := #[.int .i64 t369, .slice none 0 0]) ?_ 1 _ rfl;refine kP ?_;refine blk_put (cs := #[.int .i64 0, .slice none 0 0]) ?_ 0 _ rfl;exact kP BK373.out) hb);have n6_ := Aside0.mk (below_step (by exact bB) hb);clear HO364;clear HO367;clear HO372;clear BK359;clear BK373;clear HB;have HO364 := n0_;have HO367 := n1_;have HO372 := n2_;have HO376 := n3_;have BK359 := n4_;have BK373 := n5_;have HB := n6_;clear n0_ n1_ n2_ n3_ n4_ n5_ n6_;(try clear hb);(try clear hb2);(try clear hk);(try clear hi);(try clear ho0)))
  (try simp only [Act.put, List.setIfInBounds_toArray, List.set_cons_zero, List.set_cons_succ])
  go_cut [40] (fun v40 wc => ∃ (kq : Nat) (x40_10 : Bool), v40 = .bool x40_10 ∧ Aside0 (laws_FnExactBestBurning.j0 kq t365 t368 t374 t377 x40_10 a0_0 l0_1 t369 t370 = some r) ∧ Aside0 (kq ≤ k) ∧ Aside0 (Kd.R (Kd.int .i64) 3 wc w.heap.size (fun k_ => some k_ ≠ (v375 : Value).ownBlock) v366 t365) ∧ Aside0 (Kd.R (Kd.int .i64) 3 wc w.heap.size (fun k_ => some k_ ≠ (v366 : Value).ownBlock) v375 t374) ∧ Aside0 (Kd.R k80 80 wc w.heap.size (fun _ => True) (.slice Ao24 t370.length co24) t370) ∧ Aside0 (wc.heap[gb359]? = some (.cells #[.int .i64 a0_0, (.slice A0_1 l0_1.length c0_1)] 24 (0, 0))) ∧ Aside0 (wc.heap[gb373]? = some (.cells #[.int .i64 t369, (.slice Ao24 t370.length co24)] 29 (0, 0))) ∧ Aside0 (Below w.heap.size w wc))
  case first =>
   have H := HC11.out
   clear HC11
   replace H := Option.bind_eq_some_iff.mp H
   obtain ⟨t378, A260, H⟩ := H
   replace H : (if t378 = true then (laws_FnExactBestBurning.j0 k t365 t368 t374 t377 (t377 != t368) a0_0 l0_1 t369 t370) else (laws_FnExactBestBurning.j0 k t365 t368 t374 t377 true a0_0 l0_1 t369 t370)) = some r := H
   have A26 := Aside0.mk A260
   clear A260
   by_cases c27 : t378 = true
   ·subst c27
    have H1 : (laws_FnExactBestBurning.j0 k t365 t368 t374 t377 (t377 != t368) a0_0 l0_1 t369 t370) = some r := by rw [if_pos rfl] at H;exact H
    clear H
    have H := H1
    clear H1
    have H' := Aside0.mk H
    clear H
    obtain ⟨Ao28, co28, eo28⟩ := Kd.R_slice HO376.out
    subst eo28
    obtain ⟨Ao29, co29, eo29⟩ := Kd.R_slice HO367.out
    subst eo29
    go_wp2_with (first | ((with_reducible refine gate_callee (f := 15) rfl ?_);refine goesL_ (some 34) rfl rfl Try.func15 (by kernel_rfl) rfl #[.slice Ao28 t374.length co28, .slice Ao29 t365.length co29] rfl mM ?_;(with_reducible refine (laws_eqIntS.calls k _ _ t374 _ _ t365 true _ ?side1 ?side2 ?side3 ?side4 A26.out).mono ?_);(case side1 => exact cP (Kd.R_reads' HO376.out).2.2);(case side2 => exact (Kd.R_reads' HO376.out).2.1);(case side3 => exact cP (Kd.R_reads' HO367.out).2.2);(case side4 => exact (Kd.R_reads' HO367.out).2.1);rintro e w' ⟨rfl, ⟨nd, rfl⟩⟩;refine ⟨_, rfl, ?_⟩))
    go_meet
    case rel => exact ⟨_, ((t377 != t368)), (by first | rfl | (simp;done) | (simp [*];done)), H', ⟨by first | omega | exact Nat.le_refl _⟩, ⟨by refine rP ?_;exact Kd.R_mono HO367.out (fun _ hk => hk.2)⟩, ⟨by refine rP ?_;exact Kd.R_mono HO376.out (fun _ hk => hk.2)⟩, ⟨by refine rP ?_;exact Kd.R_mono HO372.out (fun _ hk => trivial)⟩, ⟨by exact kP BK359.out⟩, ⟨by exact kP BK373.out⟩, ⟨by exact bB⟩⟩
   ·replace c27 := Bool.eq_false_iff.mpr c27
    subst c27
    have H1 : (laws_FnExactBestBurning.j0 k t365 t368 t374 t377 true a0_0 l0_1 t369 t370) = some r := by rw [if_neg (show ¬ (false = true) by decide)] at H;exact H
    clear H
    have H := H1
    clear H1
    have H' := Aside0.mk H
    clear H
    obtain ⟨Ao30, co30, eo30⟩ := Kd.R_slice HO376.out
    subst eo30
    obtain ⟨Ao31, co31, eo31⟩ := Kd.R_slice HO367.out
    subst eo31
    go_wp2_with (first | ((with_reducible refine gate_callee (f := 15) rfl ?_);refine goesL_ (some 34) rfl rfl Try.func15 (by kernel_rfl) rfl #[.slice Ao30 t374.length co30, .slice Ao31 t365.length co31] rfl mM ?_;(with_reducible refine (laws_eqIntS.calls k _ _ t374 _ _ t365 false _ ?side1 ?side2 ?side3 ?side4 A26.out).mono ?_);(case side1 => exact cP (Kd.R_reads' HO376.out).2.2);(case side2 => exact (Kd.R_reads' HO376.out).2.1);(case side3 => exact cP (Kd.R_reads' HO367.out).2.2);(case side4 => exact (Kd.R_reads' HO367.out).2.1);rintro e w' ⟨rfl, ⟨nd, rfl⟩⟩;refine ⟨_, rfl, ?_⟩))
    go_meet
    case rel => exact ⟨_, (true), (by first | rfl | (simp;done) | (simp [*];done)), H', ⟨by first | omega | exact Nat.le_refl _⟩, ⟨by refine rP ?_;exact Kd.R_mono HO367.out (fun _ hk => hk.2)⟩, ⟨by refine rP ?_;exact Kd.R_mono HO376.out (fun _ hk => hk.2)⟩, ⟨by refine rP ?_;exact Kd.R_mono HO372.out (fun _ hk => trivial)⟩, ⟨by exact kP BK359.out⟩, ⟨by exact kP BK373.out⟩, ⟨by exact bB⟩⟩
  case rest =>
   clear HC11
   try clear c1
   try clear c2
   try clear p2
   try clear c3
   try clear c3b0
   try clear c6
   try clear c9
   try clear c11
   try clear c15
   try clear c22
   try clear c24
   try clear c25
   try clear c27
   try clear hcz13_0
   try clear hcz13_1
   try clear hcz15_0
   try clear hcz15_1
   try clear hcz19_0
   try clear hcz19_1
   try clear hcz23_0
   try clear hcz23_1
   try clear hcz5_0
   try clear hcz5_1
   try clear hfz13_0
   try clear hfz13_1
   try clear hfz15_0
   try clear hfz15_1
   try clear hfz19_0
   try clear hfz19_1
   try clear hfz23_0
   try clear hfz23_1
   try clear hfz5_0
   try clear hfz5_1
   obtain ⟨kq, x40_10, rfl, HA, HJ10, HO_4, HO_7, HO_374001, BK359, BK373, HB⟩ := hcut
   cases kq with
   | zero => exact absurd HA.out (by simp [laws_FnExactBestBurning.j0])
   | succ kj10 =>
    have H := HA.out
    clear HA
    simp only [laws_FnExactBestBurning.j0] at H
    by_cases c32 : x40_10 = true
    ·subst c32
     have H1 : (some false) = some r := by rw [if_pos rfl] at H;exact H
     clear H
     have H := H1
     clear H1
     obtain rfl := Option.some.inj H
     go_wp2
     go_ret
     exact ⟨by first | rfl | (simp [errW_none, errW_some] <;> rfl) | (simp [*, errW_none, errW_some] <;> rfl), by exact bB⟩
    ·replace c32 := Bool.eq_false_iff.mpr c32
     subst c32
     have H1 : ((laws_toGraph.f kj10 a0_0 l0_1).bind fun bt379 => ((laws_eqGraph.f kj10 t369 t370 bt379.1 bt379.2).bind fun t383 => (if t383 = true then ((laws_markGraph.f t369 t370 1).bind fun bt384 => (if bt384.1 < 0 then (laws_FnExactBestBurning.j1 kj10 t365 t368 t374 true a0_0 l0_1) else ((laws_eqIntS.f kj10 t374 t365).bind fun t386 => (if t386 = true then (laws_FnExactBestBurning.j1 kj10 t365 t368 t374 (t377 != t368) a0_0 l0_1) else (laws_FnExactBestBurning.j1 kj10 t365 t368 t374 true a0_0 l0_1))))) else (some false)))) = some r := by rw [if_neg (show ¬ (false = true) by decide)] at H;exact H
     clear H
     have H := H1
     clear H1
     replace H := Option.bind_eq_some_iff.mp H
     obtain ⟨⟨t379, t380⟩, A330, H⟩ := H
     replace H : ((laws_eqGraph.f kj10 t369 t370 t379 t380).bind fun t383 => (if t383 = true then ((laws_markGraph.f t369 t370 1).bind fun bt384 => (if bt384.1 < 0 then (laws_FnExactBestBurning.j1 kj10 t365 t368 t374 true a0_0 l0_1) else ((laws_eqIntS.f kj10 t374 t365).bind fun t386 => (if t386 = true then (laws_FnExactBestBurning.j1 kj10 t365 t368 t374 (t377 != t368) a0_0 l0_1) else (laws_FnExactBestBurning.j1 kj10 t365 t368 t374 true a0_0 l0_1))))) else (some false))) = some r := H
     have A33 := Aside0.mk A330
     clear A330
     replace H := Option.bind_eq_some_iff.mp H
     obtain ⟨t383, A340, H⟩ := H
     replace H : (if t383 = true then ((laws_markGraph.f t369 t370 1).bind fun bt384 => (if bt384.1 < 0 then (laws_FnExactBestBurning.j1 kj10 t365 t368 t374 true a0_0 l0_1) else ((laws_eqIntS.f kj10 t374 t365).bind fun t386 => (if t386 = true then (laws_FnExactBestBurning.j1 kj10 t365 t368 t374 (t377 != t368) a0_0 l0_1) else (laws_FnExactBestBurning.j1 kj10 t365 t368 t374 true a0_0 l0_1))))) else (some false)) = some r := H
     have A34 := Aside0.mk A340
     clear A340
     by_cases c35 : t383 = true
     ·subst c35
      have H1 : ((laws_markGraph.f t369 t370 1).bind fun bt384 => (if bt384.1 < 0 then (laws_FnExactBestBurning.j1 kj10 t365 t368 t374 true a0_0 l0_1) else ((laws_eqIntS.f kj10 t374 t365).bind fun t386 => (if t386 = true then (laws_FnExactBestBurning.j1 kj10 t365 t368 t374 (t377 != t368) a0_0 l0_1) else (laws_FnExactBestBurning.j1 kj10 t365 t368 t374 true a0_0 l0_1))))) = some r := by rw [if_pos rfl] at H;exact H
      clear H
      have H := H1
      clear H1
      replace H := Option.bind_eq_some_iff.mp H
      obtain ⟨⟨t384, t385⟩, A360, H⟩ := H
      replace H : (if t384 < 0 then (laws_FnExactBestBurning.j1 kj10 t365 t368 t374 true a0_0 l0_1) else ((laws_eqIntS.f kj10 t374 t365).bind fun t386 => (if t386 = true then (laws_FnExactBestBurning.j1 kj10 t365 t368 t374 (t377 != t368) a0_0 l0_1) else (laws_FnExactBestBurning.j1 kj10 t365 t368 t374 true a0_0 l0_1)))) = some r := H
      have A36 := Aside0.mk A360
      clear A360
      have HC37 := Aside0.mk H
      clear H
      try go_wp2
      have n0_ := Aside0.mk (Kd.R_drew HO_4.out)
      have n1_ := Aside0.mk (Kd.R_drew HO_7.out)
      have n2_ := Aside0.mk (Kd.R_drew HO_374001.out)
      have n3_ := Aside0.mk (blk_drew BK359.out)
      have n4_ := Aside0.mk (blk_drew BK373.out)
      have n5_ := Aside0.mk (below_drew1 HB.out)
      clear HO_4
      clear HO_7
      clear HO_374001
      clear BK359
      clear BK373
      clear HB
      have HO_4 := n0_
      have HO_7 := n1_
      have HO_374001 := n2_
      have BK359 := n3_
      have BK373 := n4_
      have HB := n5_
      clear n0_ n1_ n2_ n3_ n4_ n5_
      refine start_ (n := 5) (S := fun w' => w'.cell? ⟨gb373, 0, none⟩ = some (.int .i64 t369) ∧ w'.cell? ⟨gb373, 1, none⟩ = some (.slice Ao24 t370.length co24) ∧ w'.cell? ⟨gb359, 0, none⟩ = some (.int .i64 a0_0) ∧ w'.cell? ⟨gb359, 1, none⟩ = some (.slice A0_1 l0_1.length c0_1)) (ds := []) #[false,false,false,false,false] (by kernel_rfl) rfl rfl ⟨(blk_cell BK373.out 0).trans rfl, (blk_cell BK373.out 1).trans rfl, (blk_cell BK359.out 0).trans rfl, (blk_cell BK359.out 1).trans rfl⟩ (fun hHeld => ?_)
      generalize wc.drew = w38 at HO_4 HO_7 HO_374001 BK359 BK373 HB hHeld ⊢
      refine take_ (i := 0) (N := some 41) (v := ?_) (a' := ?_) #[true,false,false,false,false] rfl rfl (by kernel_rfl) (fun _ _ _ h => h) (Or.inl ⟨by rfl, ?_⟩) hHeld ?_ ?_
      rotate_left
      ·rintro w' ⟨s0, s1, s2, s3⟩
       go_simp
       with_reducible rfl
      rotate_left
      ·simp only [Act.put, List.setIfInBounds_toArray, List.set_cons_zero, List.set_cons_succ, i64_w, i32_w]
       rfl
      refine take_ (i := 1) (N := some 42) (v := ?_) (a' := ?_) #[true,true,false,false,false] rfl rfl (by kernel_rfl) (fun _ _ _ h => h) (Or.inl ⟨by rfl, ?_⟩) hHeld ?_ ?_
      rotate_left
      ·rintro w' ⟨s0, s1, s2, s3⟩
       go_simp
       with_reducible rfl
      rotate_left
      ·simp only [Act.put, List.setIfInBounds_toArray, List.set_cons_zero, List.set_cons_succ, i64_w, i32_w]
       rfl
      refine one_ (i := 2) (N := some 43) #[true,true,true,false,false] rfl rfl (by kernel_rfl) (by decide) (fun K hK => ?_)
      refine goes_ Try.func11 (by kernel_rfl) rfl #[.agg #[.int .i64 a0_0, .slice A0_1 l0_1.length c0_1]] (by rfl) rfl rfl mM ?_
      with_reducible refine (laws_toGraph.calls kj10 a0_0 _ _ l0_1 t379 t380 _ ?side1 ?side2 A33.out).mono ?_
      (case side1 => exact cP (Kd.C_below HR0_1.out HB.out))
      (case side2 => exact HC0_1.out)
      rintro e w39 ⟨v381, rfl, ho0, hb⟩
      refine ⟨_, rfl, ?_⟩
      have n0_ := Aside0.mk (Kd.R_below (by exact rP HO_4.out) hb)
      have n1_ := Aside0.mk (Kd.R_below (by exact rP HO_7.out) hb)
      have n2_ := Aside0.mk (Kd.R_elder' (by exact rP HO_374001.out) (Kd.R_base ho0) hb)
      have n3_ := Aside0.mk (Kd.R_lower (Kd.R_new' ho0 (Kd.R_lt (by exact rP HO_374001.out))) (below_size (by exact bB)))
      have n4_ := Aside0.mk (blk_below (g := gb359) (o := .cells #[.int .i64 a0_0, .slice A0_1 l0_1.length c0_1] 24 (0, 0)) (by exact kP BK359.out) hb)
      have n5_ := Aside0.mk (blk_below (g := gb373) (o := .cells #[.int .i64 t369, .slice Ao24 t370.length co24] 29 (0, 0)) (by exact kP BK373.out) hb)
      have n6_ := Aside0.mk (below_step (by exact bB) hb)
      clear HO_4
      clear HO_7
      clear HO_374001
      clear BK359
      clear BK373
      clear HB
      have HO_4 := n0_
      have HO_7 := n1_
      have HO_374001 := n2_
      have HO382 := n3_
      have BK359 := n4_
      have BK373 := n5_
      have HB := n6_
      clear n0_ n1_ n2_ n3_ n4_ n5_ n6_
      (try clear hb)
      (try clear hb2)
      (try clear hk)
      (try clear hi)
      (try clear ho0)
      obtain ⟨Ao40, co40, eo40⟩ := Kd.R_slice HO382.out
      (first | subst eo40 | (injection eo40 with f1_ f2_ f3_;have f4_ := f1_.symm;have f5_ := f3_.symm;clear f1_ f2_ f3_;subst f4_;subst f5_))
      refine hK.out _ _ ⟨(blk_cell BK373.out 0).trans rfl, (blk_cell BK373.out 1).trans rfl, (blk_cell BK359.out 0).trans rfl, (blk_cell BK359.out 1).trans rfl⟩ (fun hHeld => ?_)
      clear hK K
      refine norm_ (a' := ?_) ?_ ?_
      rotate_left
      ·show Act.put _ (some 43) _ = _
       simp only [Act.put, List.setIfInBounds_toArray, List.set_cons_zero, List.set_cons_succ, i64_w, i32_w]
       rfl
      refine one_ (i := 3) (N := some 44) #[true,true,true,true,false] rfl rfl (by kernel_rfl) (by decide) (fun K hK => ?_)
      refine goes_ Try.func14 (by kernel_rfl) rfl #[.agg #[.int .i64 t369, .slice Ao24 t370.length co24], .agg #[.int .i64 t379, .slice Ao40 t380.length co40]] (by rfl) rfl rfl mM ?_
      with_reducible refine (laws_eqGraph.calls kj10 t369 _ _ t370 t379 _ _ t380 true _ ?side1 ?side2 ?side3 ?side4 A34.out).mono ?_
      (case side1 => exact cP (Kd.R_reads' HO_374001.out).2.2)
      (case side2 => exact (Kd.R_reads' HO_374001.out).2.1)
      (case side3 => exact cP (Kd.R_reads' HO382.out).2.2)
      (case side4 => exact (Kd.R_reads' HO382.out).2.1)
      rintro e w41 ⟨rfl, hb⟩
      refine ⟨_, rfl, ?_⟩
      have n0_ := Aside0.mk (Kd.R_below (by exact rP HO_4.out) hb)
      have n1_ := Aside0.mk (Kd.R_below (by exact rP HO_7.out) hb)
      have n2_ := Aside0.mk (Kd.R_below (by exact rP HO_374001.out) hb)
      have n3_ := Aside0.mk (Kd.R_below (by exact rP HO382.out) hb)
      have n4_ := Aside0.mk (blk_below (g := gb359) (o := .cells #[.int .i64 a0_0, .slice A0_1 l0_1.length c0_1] 24 (0, 0)) (by exact kP BK359.out) hb)
      have n5_ := Aside0.mk (blk_below (g := gb373) (o := .cells #[.int .i64 t369, .slice Ao24 t370.length co24] 29 (0, 0)) (by exact kP BK373.out) hb)
      have n6_ := Aside0.mk (below_step (by exact bB) hb)
      clear HO_4
      clear HO_7
      clear HO_374001
      clear HO382
      clear BK359
      clear BK373
      clear HB
      have HO_4 := n0_
      have HO_7 := n1_
      have HO_374001 := n2_
      have HO382 := n3_
      have BK359 := n4_
      have BK373 := n5_
      have HB := n6_
      clear n0_ n1_ n2_ n3_ n4_ n5_ n6_
      (try clear hb)
      (try clear hb2)
      (try clear hk)
      (try clear hi)
      refine hK.out _ _ ⟨(blk_cell BK373.out 0).trans rfl, (blk_cell BK373.out 1).trans rfl, (blk_cell BK359.out 0).trans rfl, (blk_cell BK359.out 1).trans rfl⟩ (fun hHeld => ?_)
      clear hK K
      refine norm_ (a' := ?_) ?_ ?_
      rotate_left
      ·show Act.put _ (some 44) _ = _
       simp only [Act.put, List.setIfInBounds_toArray, List.set_cons_zero, List.set_cons_succ, i64_w, i32_w]
       rfl
      refine pure_ (i := 4) (N := some 45) (v := ?_) (a' := ?_) #[true,true,true,true,true] rfl rfl (by kernel_rfl) (fun _ _ _ h => h) (Or.inl ⟨by rfl, ?_⟩) ?_ ?_
      rotate_left
      ·intro w'
       go_simp
       with_reducible rfl
      rotate_left
      ·simp only [Act.put, List.setIfInBounds_toArray, List.set_cons_zero, List.set_cons_succ, i64_w, i32_w]
       rfl
      refine done_ (by kernel_rfl) ?_
      have hnb42 := NB373_359.out
      have hnc42 := NB359_373.out
      have hcz43_0 : w41.cell? ⟨gb373, 0, none⟩ = some (.int .i64 t369) := (blk_cell BK373.out 0).trans rfl
      have hcz43_1 : w41.cell? ⟨gb373, 1, none⟩ = some (.slice Ao24 t370.length co24) := (blk_cell BK373.out 1).trans rfl
      have hfz43_0 := blk_frozen BK373.out 0
      have hfz43_1 := blk_frozen BK373.out 1
      go_upto_region 14 with (first | ((with_reducible refine gate_callee (f := 21) rfl ?_);refine goesL_ (some 48) rfl rfl Try.func21 (by kernel_rfl) rfl #[.agg #[.int .i64 t369, .slice Ao24 t370.length co24], .int .i64 1] rfl mM ?_;(with_reducible refine (laws_markGraph.calls t369 (fun k_ => some k_ = (.slice Ao24 t370.length co24 : Value).ownBlock) (.slice Ao24 t370.length co24) t370 1 t384 t385 w _ ?side1 ?side2 A36.out).mono ?_);(case side1 => exact bB);(case side2 => exact Kd.R_tight rfl HO_374001.out);rintro e w44 ⟨rfl, hy0, hb, hkp⟩;refine ⟨_, rfl, ?_⟩;have n0_ := Aside0.mk (Kd.R_mono (ok' := fun k_ => some k_ ≠ (v375 : Value).ownBlock) (Kd.R_keptB ((Kd.R_apart' HO_4.out (Kd.R_typed HO_374001.out) (by decide))) hkp (fun k_ hk_ hs_ => (hk_.2) hs_)) (fun k_ hk_ => hk_.1.1));have n1_ := Aside0.mk (Kd.R_mono (ok' := fun k_ => some k_ ≠ (v366 : Value).ownBlock) (Kd.R_keptB ((Kd.R_apart' HO_7.out (Kd.R_typed HO_374001.out) (by decide))) hkp (fun k_ hk_ hs_ => (hk_.2) hs_)) (fun k_ hk_ => hk_.1.1));have n2_ := Aside0.mk (Kd.R_reok rfl hy0 (fun k_ e_ => HO_374001.out.1 k_ e_));have n3_ := Aside0.mk (blk_kept (by exact kP BK359.out) hkp (fun hs_ => (fun e_ => (Kd.R_ne HO_374001.out BK359.out (by decide)) e_) hs_));have n4_ := Aside0.mk (blk_kept (by exact kP BK373.out) hkp (fun hs_ => (fun e_ => (Kd.R_ne HO_374001.out BK373.out (by decide)) e_) hs_));have n5_ := Aside0.mk (Kd.R_mono (ok' := fun k_ => some k_ ≠ (.slice Ao24 t370.length co24 : Value).ownBlock) (Kd.R_keptB (HO382.out) hkp (fun k_ hk_ hs_ => (hk_.2) hs_)) (fun k_ hk_ => hk_.1.2));have n6_ := Aside0.mk (hb);clear HO_4;clear HO_7;clear HO_374001;clear BK359;clear BK373;clear HO382;clear HB;have HO_4 := n0_;have HO_7 := n1_;have HO_374001 := n2_;have BK359 := n3_;have BK373 := n4_;have HO382 := n5_;have HB := n6_;clear n0_ n1_ n2_ n3_ n4_ n5_ n6_;(try clear hb);(try clear hkp);(try clear hy0)))
      (try simp only [Act.put, List.setIfInBounds_toArray, List.set_cons_zero, List.set_cons_succ])
      go_cut [61] (fun v61 wc => ∃ (kq : Nat) (x61_36 : Bool), v61 = .bool x61_36 ∧ Aside0 (laws_FnExactBestBurning.j1 kq t365 t368 t374 x61_36 a0_0 l0_1 = some r) ∧ Aside0 (kq ≤ kj10) ∧ Aside0 (Kd.R (Kd.int .i64) 3 wc w.heap.size (fun k_ => some k_ ≠ (v375 : Value).ownBlock) v366 t365) ∧ Aside0 (Kd.R (Kd.int .i64) 3 wc w.heap.size (fun k_ => some k_ ≠ (v366 : Value).ownBlock) v375 t374) ∧ Aside0 (Kd.R k80 80 wc w.heap.size (fun _ => True) (.slice Ao24 t370.length co24) t385) ∧ Aside0 (wc.heap[gb359]? = some (.cells #[.int .i64 a0_0, (.slice A0_1 l0_1.length c0_1)] 24 (0, 0))) ∧ Aside0 (wc.heap[gb373]? = some (.cells #[.int .i64 t369, (.slice Ao24 t370.length co24)] 29 (0, 0))) ∧ Aside0 (Below w.heap.size w wc))
      case first =>
       have H := HC37.out
       clear HC37
       by_cases c45 : t384 < 0
       ·rw [if_pos c45] at H
        have c45b0 : decide (t384 < 0) = true := decide_eq_true c45
        clear c45
        (first | rw [c45b0] | (simp only [i64_w, i32_w];rw [c45b0]) | skip)
        have H' := Aside0.mk H
        clear H
        go_wp2
        go_meet
        case rel => exact ⟨_, (true), (by first | rfl | (simp;done) | (simp [*];done)), H', ⟨by have := HJ10.out;first | omega | exact Nat.le_refl _⟩, ⟨by exact rP HO_4.out⟩, ⟨by exact rP HO_7.out⟩, ⟨by refine rP ?_;exact Kd.R_mono HO_374001.out (fun _ hk => trivial)⟩, ⟨by exact kP BK359.out⟩, ⟨by exact kP BK373.out⟩, ⟨by exact bB⟩⟩
       ·rw [if_neg c45] at H
        have c45b0 : decide (t384 < 0) = false := decide_eq_false c45
        clear c45
        (first | rw [c45b0] | (simp only [i64_w, i32_w];rw [c45b0]) | skip)
        replace H := Option.bind_eq_some_iff.mp H
        obtain ⟨t386, A460, H⟩ := H
        replace H : (if t386 = true then (laws_FnExactBestBurning.j1 kj10 t365 t368 t374 (t377 != t368) a0_0 l0_1) else (laws_FnExactBestBurning.j1 kj10 t365 t368 t374 true a0_0 l0_1)) = some r := H
        have A46 := Aside0.mk A460
        clear A460
        by_cases c47 : t386 = true
        ·subst c47
         have H1 : (laws_FnExactBestBurning.j1 kj10 t365 t368 t374 (t377 != t368) a0_0 l0_1) = some r := by rw [if_pos rfl] at H;exact H
         clear H
         have H := H1
         clear H1
         have H' := Aside0.mk H
         clear H
         obtain ⟨Ao48, co48, eo48⟩ := Kd.R_slice HO_7.out
         subst eo48
         obtain ⟨Ao49, co49, eo49⟩ := Kd.R_slice HO_4.out
         subst eo49
         go_wp2_with (first | (go_at_call 15;(with_reducible refine (laws_eqIntS.calls kj10 _ _ t374 _ _ t365 true _ ?side1 ?side2 ?side3 ?side4 A46.out).mono ?_);(case side1 => exact cP (Kd.R_reads' HO_7.out).2.2);(case side2 => exact (Kd.R_reads' HO_7.out).2.1);(case side3 => exact cP (Kd.R_reads' HO_4.out).2.2);(case side4 => exact (Kd.R_reads' HO_4.out).2.1);rintro e w' ⟨rfl, ⟨nd, rfl⟩⟩))
         go_meet
         case rel => exact ⟨_, ((t377 != t368)), (by first | rfl | (simp;done) | (simp [*];done)), H', ⟨by have := HJ10.out;first | omega | exact Nat.le_refl _⟩, ⟨by exact rP HO_4.out⟩, ⟨by exact rP HO_7.out⟩, ⟨by refine rP ?_;exact Kd.R_mono HO_374001.out (fun _ hk => trivial)⟩, ⟨by exact kP BK359.out⟩, ⟨by exact kP BK373.out⟩, ⟨by exact bB⟩⟩
        ·replace c47 := Bool.eq_false_iff.mpr c47
         subst c47
         have H1 : (laws_FnExactBestBurning.j1 kj10 t365 t368 t374 true a0_0 l0_1) = some r := by rw [if_neg (show ¬ (false = true) by decide)] at H;exact H
         clear H
         have H := H1
         clear H1
         have H' := Aside0.mk H
         clear H
         obtain ⟨Ao50, co50, eo50⟩ := Kd.R_slice HO_7.out
         subst eo50
         obtain ⟨Ao51, co51, eo51⟩ := Kd.R_slice HO_4.out
         subst eo51
         go_wp2_with (first | (go_at_call 15;(with_reducible refine (laws_eqIntS.calls kj10 _ _ t374 _ _ t365 false _ ?side1 ?side2 ?side3 ?side4 A46.out).mono ?_);(case side1 => exact cP (Kd.R_reads' HO_7.out).2.2);(case side2 => exact (Kd.R_reads' HO_7.out).2.1);(case side3 => exact cP (Kd.R_reads' HO_4.out).2.2);(case side4 => exact (Kd.R_reads' HO_4.out).2.1);rintro e w' ⟨rfl, ⟨nd, rfl⟩⟩))
         go_meet
         case rel => exact ⟨_, (true), (by first | rfl | (simp;done) | (simp [*];done)), H', ⟨by have := HJ10.out;first | omega | exact Nat.le_refl _⟩, ⟨by exact rP HO_4.out⟩, ⟨by exact rP HO_7.out⟩, ⟨by refine rP ?_;exact Kd.R_mono HO_374001.out (fun _ hk => trivial)⟩, ⟨by exact kP BK359.out⟩, ⟨by exact kP BK373.out⟩, ⟨by exact bB⟩⟩
      case rest =>
       clear HC37
       try clear c1
       try clear c2
       try clear p2
       try clear c3
       try clear c3b0
       try clear c4
       try clear c6
       try clear c9
       try clear c11
       try clear c14
       try clear c15
       try clear c21
       try clear c22
       try clear c24
       try clear c25
       try clear c27
       try clear c32
       try clear c35
       try clear c42
       try clear c45
       try clear c45b0
       try clear c47
       try clear hcz13_0
       try clear hcz13_1
       try clear hcz15_0
       try clear hcz15_1
       try clear hcz19_0
       try clear hcz19_1
       try clear hcz23_0
       try clear hcz23_1
       try clear hcz43_0
       try clear hcz43_1
       try clear hcz5_0
       try clear hcz5_1
       try clear hfz13_0
       try clear hfz13_1
       try clear hfz15_0
       try clear hfz15_1
       try clear hfz19_0
       try clear hfz19_1
       try clear hfz23_0
       try clear hfz23_1
       try clear hfz43_0
       try clear hfz43_1
       try clear hfz5_0
       try clear hfz5_1
       try clear p2
       obtain ⟨kq, x61_36, rfl, HA, HJ36, HO_4, HO_7, HO_374001, BK359, BK373, HB⟩ := hcut
       have hl374001_36 := (Kd.R_reads' HO_374001.out).1
       rw [hl374001_36] at HO_374001
       (try simp only [hl374001_36])
       (try simp only [hl374001_36] at BK359)
       (try simp only [hl374001_36] at BK373)
       (try simp only [hl374001_36] at HO_4)
       (try simp only [hl374001_36] at HO_7)
       cases kq with
       | zero => exact absurd HA.out (by simp [laws_FnExactBestBurning.j1])
       | succ kj36 =>
        have H := HA.out
        clear HA
        simp only [laws_FnExactBestBurning.j1] at H
        by_cases c52 : x61_36 = true
        ·subst c52
         have H1 : (some false) = some r := by rw [if_pos rfl] at H;exact H
         clear H
         have H := H1
         clear H1
         obtain rfl := Option.some.inj H
         go_wp2
         go_ret
         exact ⟨by first | rfl | (simp [errW_none, errW_some] <;> rfl) | (simp [*, errW_none, errW_some] <;> rfl), by exact bB⟩
        ·replace c52 := Bool.eq_false_iff.mpr c52
         subst c52
         have H1 : ((laws_markIntS.f kj36 t374 1).bind fun bt387 => ((laws_heldIntS.f kj36 bt387.2 1).bind fun t389 => (if t389 < 0 then (some false) else (if t389 = bt387.1 then ((laws_toGraph.f kj36 a0_0 l0_1).bind fun bt390 => ((impl_BestBurning.f kj36 bt390.1 bt390.2).bind fun bt394 => ((laws_eqIntS.f kj36 bt394.1 t365).bind fun t398 => (if t398 = true then (laws_FnExactBestBurning.j2 kj36 bt387.2 bt387.1 (bt394.2 != t368)) else (laws_FnExactBestBurning.j2 kj36 bt387.2 bt387.1 true))))) else (some false))))) = some r := by rw [if_neg (show ¬ (false = true) by decide)] at H;exact H
         clear H
         have H := H1
         clear H1
         replace H := Option.bind_eq_some_iff.mp H
         obtain ⟨⟨t387, t388⟩, A530, H⟩ := H
         replace H : ((laws_heldIntS.f kj36 t388 1).bind fun t389 => (if t389 < 0 then (some false) else (if t389 = t387 then ((laws_toGraph.f kj36 a0_0 l0_1).bind fun bt390 => ((impl_BestBurning.f kj36 bt390.1 bt390.2).bind fun bt394 => ((laws_eqIntS.f kj36 bt394.1 t365).bind fun t398 => (if t398 = true then (laws_FnExactBestBurning.j2 kj36 t388 t387 (bt394.2 != t368)) else (laws_FnExactBestBurning.j2 kj36 t388 t387 true))))) else (some false)))) = some r := H
         have A53 := Aside0.mk A530
         clear A530
         replace H := Option.bind_eq_some_iff.mp H
         obtain ⟨t389, A540, H⟩ := H
         replace H : (if t389 < 0 then (some false) else (if t389 = t387 then ((laws_toGraph.f kj36 a0_0 l0_1).bind fun bt390 => ((impl_BestBurning.f kj36 bt390.1 bt390.2).bind fun bt394 => ((laws_eqIntS.f kj36 bt394.1 t365).bind fun t398 => (if t398 = true then (laws_FnExactBestBurning.j2 kj36 t388 t387 (bt394.2 != t368)) else (laws_FnExactBestBurning.j2 kj36 t388 t387 true))))) else (some false))) = some r := H
         have A54 := Aside0.mk A540
         clear A540
         by_cases c55 : t389 < 0
         ·rw [if_pos c55] at H
          have c55b0 : decide (t389 < 0) = true := decide_eq_true c55
          clear c55
          obtain rfl := Option.some.inj H
          obtain ⟨Ao56, co56, eo56⟩ := Kd.R_slice HO_7.out
          subst eo56
          go_wp2_with (first | ((with_reducible refine gate_callee (f := 26) rfl ?_);refine goesL_ (some 64) rfl rfl Try.func26 (by kernel_rfl) rfl #[.slice Ao56 t374.length co56, .int .i64 1] rfl mM ?_;(with_reducible refine (laws_markIntS.calls kj36 (fun k_ => some k_ = (.slice Ao56 t374.length co56 : Value).ownBlock) (.slice Ao56 t374.length co56) t374 1 t387 t388 w _ ?side1 ?side2 A53.out).mono ?_);(case side1 => exact bB);(case side2 => exact Kd.R_tight rfl HO_7.out);rintro e w57 ⟨rfl, hy0, hb, hkp⟩;refine ⟨_, rfl, ?_⟩;have n0_ := Aside0.mk (Kd.R_mono (ok' := fun k_ => some k_ ≠ (.slice Ao56 t374.length co56 : Value).ownBlock) (Kd.R_keptB (HO_4.out) hkp (fun k_ hk_ hs_ => (hk_) hs_)) (fun k_ hk_ => hk_.1));have n1_ := Aside0.mk (Kd.R_reok rfl hy0 (fun k_ e_ => HO_7.out.1 k_ e_));have n2_ := Aside0.mk (Kd.R_mono (ok' := fun k_ => True) (Kd.R_keptB ((Kd.R_apart' HO_374001.out (Kd.R_typed HO_7.out) (by decide))) hkp (fun k_ hk_ hs_ => (hk_.2) hs_)) (fun k_ hk_ => trivial));have n3_ := Aside0.mk (blk_kept (by exact kP BK359.out) hkp (fun hs_ => (fun e_ => (Kd.R_ne HO_7.out BK359.out (by decide)) e_) hs_));have n4_ := Aside0.mk (blk_kept (by exact kP BK373.out) hkp (fun hs_ => (fun e_ => (Kd.R_ne HO_7.out BK373.out (by decide)) e_) hs_));have n5_ := Aside0.mk (hb);clear HO_4;clear HO_7;clear HO_374001;clear BK359;clear BK373;clear HB;have HO_4 := n0_;have HO_7 := n1_;have HO_374001 := n2_;have BK359 := n3_;have BK373 := n4_;have HB := n5_;clear n0_ n1_ n2_ n3_ n4_ n5_;(try clear hb);(try clear hkp);(try clear hy0)) | ((with_reducible refine gate_callee (f := 27) rfl ?_);refine goesL_ (some 67) rfl rfl Try.func27 (by kernel_rfl) rfl #[.slice Ao56 t388.length co56, .int .i64 1] rfl (by (try simp only [List.map_toArray, List.map_cons, List.map_nil]);first | done | (rw [show t388.length = t374.length from (Kd.R_reads' HO_7.out).1.symm] <;> rfl) | rfl | (simp only [List.length_drop, List.length_take];rfl)) ?_;(with_reducible refine (laws_heldIntS.calls kj36 _ _ t388 1 t389 _ ?side1 ?side2 A54.out).mono ?_);(case side1 => exact cP (Kd.R_reads' HO_7.out).2.2);(case side2 => rw [show t388.length = t374.length from (Kd.R_reads' HO_7.out).1.symm];exact (Kd.R_reads' HO_7.out).2.1);rintro e w' ⟨rfl, ⟨nd, rfl⟩⟩;refine ⟨_, rfl, ?_⟩))
          go_ret
          exact ⟨by first | rfl | (simp [errW_none, errW_some] <;> rfl) | (simp [*, errW_none, errW_some] <;> rfl), by exact bB⟩
         ·rw [if_neg c55] at H
          have c55b0 : decide (t389 < 0) = false := decide_eq_false c55
          clear c55
          by_cases c58 : t389 = t387
          ·rw [if_pos c58] at H
           have c58b0 : (t389 == t387) = true := beq_iff_eq.mpr c58
           have c58b1 : (t389 != t387) = false := bne_eq_false_iff_eq.mpr c58
           clear c58
           replace H := Option.bind_eq_some_iff.mp H
           obtain ⟨⟨t390, t391⟩, A590, H⟩ := H
           replace H : ((impl_BestBurning.f kj36 t390 t391).bind fun bt394 => ((laws_eqIntS.f kj36 bt394.1 t365).bind fun t398 => (if t398 = true then (laws_FnExactBestBurning.j2 kj36 t388 t387 (bt394.2 != t368)) else (laws_FnExactBestBurning.j2 kj36 t388 t387 true)))) = some r := H
           have A59 := Aside0.mk A590
           clear A590
           replace H := Option.bind_eq_some_iff.mp H
           obtain ⟨⟨t394, t397⟩, A600, H⟩ := H
           replace H : ((laws_eqIntS.f kj36 t394 t365).bind fun t398 => (if t398 = true then (laws_FnExactBestBurning.j2 kj36 t388 t387 (t397 != t368)) else (laws_FnExactBestBurning.j2 kj36 t388 t387 true))) = some r := H
           have A60 := Aside0.mk A600
           clear A600
           have HC61 := Aside0.mk H
           clear H
           obtain ⟨Ao62, co62, eo62⟩ := Kd.R_slice HO_7.out
           subst eo62
           go_upto_region 25 with (first | ((with_reducible refine gate_callee (f := 26) rfl ?_);refine goesL_ (some 64) rfl rfl Try.func26 (by kernel_rfl) rfl #[.slice Ao62 t374.length co62, .int .i64 1] rfl mM ?_;(with_reducible refine (laws_markIntS.calls kj36 (fun k_ => some k_ = (.slice Ao62 t374.length co62 : Value).ownBlock) (.slice Ao62 t374.length co62) t374 1 t387 t388 w _ ?side1 ?side2 A53.out).mono ?_);(case side1 => exact bB);(case side2 => exact Kd.R_tight rfl HO_7.out);rintro e w63 ⟨rfl, hy0, hb, hkp⟩;refine ⟨_, rfl, ?_⟩;have n0_ := Aside0.mk (Kd.R_mono (ok' := fun k_ => some k_ ≠ (.slice Ao62 t374.length co62 : Value).ownBlock) (Kd.R_keptB (HO_4.out) hkp (fun k_ hk_ hs_ => (hk_) hs_)) (fun k_ hk_ => hk_.1));have n1_ := Aside0.mk (Kd.R_reok rfl hy0 (fun k_ e_ => HO_7.out.1 k_ e_));have n2_ := Aside0.mk (Kd.R_mono (ok' := fun k_ => True) (Kd.R_keptB ((Kd.R_apart' HO_374001.out (Kd.R_typed HO_7.out) (by decide))) hkp (fun k_ hk_ hs_ => (hk_.2) hs_)) (fun k_ hk_ => trivial));have n3_ := Aside0.mk (blk_kept (by exact kP BK359.out) hkp (fun hs_ => (fun e_ => (Kd.R_ne HO_7.out BK359.out (by decide)) e_) hs_));have n4_ := Aside0.mk (blk_kept (by exact kP BK373.out) hkp (fun hs_ => (fun e_ => (Kd.R_ne HO_7.out BK373.out (by decide)) e_) hs_));have n5_ := Aside0.mk (hb);clear HO_4;clear HO_7;clear HO_374001;clear BK359;clear BK373;clear HB;have HO_4 := n0_;have HO_7 := n1_;have HO_374001 := n2_;have BK359 := n3_;have BK373 := n4_;have HB := n5_;clear n0_ n1_ n2_ n3_ n4_ n5_;(try clear hb);(try clear hkp);(try clear hy0)) | ((with_reducible refine gate_callee (f := 27) rfl ?_);refine goesL_ (some 67) rfl rfl Try.func27 (by kernel_rfl) rfl #[.slice Ao62 t388.length co62, .int .i64 1] rfl (by (try simp only [List.map_toArray, List.map_cons, List.map_nil]);first | done | (rw [show t388.length = t374.length from (Kd.R_reads' HO_7.out).1.symm] <;> rfl) | rfl | (simp only [List.length_drop, List.length_take];rfl)) ?_;(with_reducible refine (laws_heldIntS.calls kj36 _ _ t388 1 t389 _ ?side1 ?side2 A54.out).mono ?_);(case side1 => exact cP (Kd.R_reads' HO_7.out).2.2);(case side2 => rw [show t388.length = t374.length from (Kd.R_reads' HO_7.out).1.symm];exact (Kd.R_reads' HO_7.out).2.1);rintro e w' ⟨rfl, ⟨nd, rfl⟩⟩;refine ⟨_, rfl, ?_⟩;have hnb64 := NB359_373.out;have hnc64 := NB373_359.out;have hcz65_0 : w63.cell? ⟨gb359, 0, none⟩ = some (.int .i64 a0_0) := (blk_cell BK359.out 0).trans rfl;have hcz65_1 : w63.cell? ⟨gb359, 1, none⟩ = some (.slice A0_1 l0_1.length c0_1) := (blk_cell BK359.out 1).trans rfl;have hfz65_0 := blk_frozen BK359.out 0;have hfz65_1 := blk_frozen BK359.out 1) | ((with_reducible refine gate_callee (f := 11) rfl ?_);refine goesL_ (some 75) rfl rfl Try.func11 (by kernel_rfl) rfl #[.agg #[.int .i64 a0_0, .slice A0_1 l0_1.length c0_1]] rfl mM ?_;(with_reducible refine (laws_toGraph.calls kj36 a0_0 _ _ l0_1 t390 t391 _ ?side1 ?side2 A59.out).mono ?_);(case side1 => exact cP (Kd.C_below HR0_1.out (by repeat (first | (with_reducible first | exact HB.out | apply below_alloc | apply pw_below_drewN | apply below_drew1 | refine below_set ?_ GE359.out | refine below_set ?_ GE373.out) | exact HB.out))));(case side2 => exact HC0_1.out);rintro e w66 ⟨v392, rfl, ho0, hb⟩;refine ⟨_, rfl, ?_⟩;have n0_ := Aside0.mk (Kd.R_below (by exact rP HO_4.out) hb);have n1_ := Aside0.mk (Kd.R_below (by exact rP HO_7.out) hb);have n2_ := Aside0.mk (Kd.R_elder' (by exact rP HO_374001.out) (Kd.R_base ho0) hb);have n3_ := Aside0.mk (Kd.R_lower (Kd.R_new' ho0 (Kd.R_lt (by exact rP HO_374001.out))) (below_size (by exact bB)));have n4_ := Aside0.mk (blk_below (g := gb359) (o := .cells #[.int .i64 a0_0, .slice A0_1 l0_1.length c0_1] 24 (0, 0)) (by exact kP BK359.out) hb);have n5_ := Aside0.mk (blk_below (g := gb373) (o := .cells #[.int .i64 t369, .slice Ao24 t385.length co24] 29 (0, 0)) (by exact kP BK373.out) hb);have n6_ := Aside0.mk (below_step (by exact bB) hb);clear HO_4;clear HO_7;clear HO_374001;clear BK359;clear BK373;clear HB;have HO_4 := n0_;have HO_7 := n1_;have HO_374001 := n2_;have HO393 := n3_;have BK359 := n4_;have BK373 := n5_;have HB := n6_;clear n0_ n1_ n2_ n3_ n4_ n5_ n6_;(try clear hb);(try clear hb2);(try clear hk);(try clear hi);(try clear ho0);obtain ⟨Ao67, co67, eo67⟩ := Kd.R_slice HO393.out;subst eo67) | ((with_reducible refine gate_callee (f := 25) rfl ?_);refine goesL_ (some 76) rfl rfl Try.func25 (by kernel_rfl) rfl #[.agg #[.int .i64 t390, .slice Ao67 t391.length co67]] rfl mM ?_;(with_reducible refine (impl_BestBurning.calls kj36 t390 _ _ t391 t394 t397 _ ?side1 ?side2 A60.out).mono ?_);(case side1 => exact cP (Kd.R_reads' HO393.out).2.2);(case side2 => exact (Kd.R_reads' HO393.out).2.1);rintro e w68 ⟨v395, rfl, ho0, hb⟩;refine ⟨_, rfl, ?_⟩;have n0_ := Aside0.mk (Kd.R_elder' (by exact rP HO_4.out) (Kd.R_base ho0) hb);have n1_ := Aside0.mk (Kd.R_elder' (by exact rP HO_7.out) (Kd.R_base ho0) hb);have n2_ := Aside0.mk (Kd.R_below (by exact rP HO_374001.out) hb);have n3_ := Aside0.mk (Kd.R_below (by exact rP HO393.out) hb);have n4_ := Aside0.mk (Kd.R_lower (Kd.R_new' (Kd.R_new' ho0 (Kd.R_lt (by exact rP HO_4.out))) (Kd.R_lt (by exact rP HO_7.out))) (below_size (by exact bB)));have n5_ := Aside0.mk (blk_below (g := gb359) (o := .cells #[.int .i64 a0_0, .slice A0_1 l0_1.length c0_1] 24 (0, 0)) (by exact kP BK359.out) hb);have n6_ := Aside0.mk (blk_below (g := gb373) (o := .cells #[.int .i64 t369, .slice Ao24 t385.length co24] 29 (0, 0)) (by exact kP BK373.out) hb);have n7_ := Aside0.mk (below_step (by exact bB) hb);clear HO_4;clear HO_7;clear HO_374001;clear HO393;clear BK359;clear BK373;clear HB;have HO_4 := n0_;have HO_7 := n1_;have HO_374001 := n2_;have HO393 := n3_;have HO396 := n4_;have BK359 := n5_;have BK373 := n6_;have HB := n7_;clear n0_ n1_ n2_ n3_ n4_ n5_ n6_ n7_;(try clear hb);(try clear hb2);(try clear hk);(try clear hi);(try clear ho0)))
           (try simp only [Act.put, List.setIfInBounds_toArray, List.set_cons_zero, List.set_cons_succ])
           go_cut [87] (fun v87 wc => ∃ (kq : Nat) (x87_60 : Bool), v87 = .bool x87_60 ∧ Aside0 (laws_FnExactBestBurning.j2 kq t388 t387 x87_60 = some r) ∧ Aside0 (kq ≤ kj36) ∧ Aside0 (Kd.R (Kd.int .i64) 3 wc w.heap.size (fun _ => True) (.slice Ao62 t374.length co62) t388) ∧ Aside0 (Kd.R k80 80 wc w.heap.size (fun _ => True) (.slice Ao24 t385.length co24) t385) ∧ Aside0 (wc.heap[gb359]? = some (.cells #[.int .i64 a0_0, (.slice A0_1 l0_1.length c0_1)] 24 (0, 0))) ∧ Aside0 (wc.heap[gb373]? = some (.cells #[.int .i64 t369, (.slice Ao24 t385.length co24)] 29 (0, 0))) ∧ Aside0 (Below w.heap.size w wc))
           case first =>
            have H := HC61.out
            clear HC61
            replace H := Option.bind_eq_some_iff.mp H
            obtain ⟨t398, A690, H⟩ := H
            replace H : (if t398 = true then (laws_FnExactBestBurning.j2 kj36 t388 t387 (t397 != t368)) else (laws_FnExactBestBurning.j2 kj36 t388 t387 true)) = some r := H
            have A69 := Aside0.mk A690
            clear A690
            by_cases c70 : t398 = true
            ·subst c70
             have H1 : (laws_FnExactBestBurning.j2 kj36 t388 t387 (t397 != t368)) = some r := by rw [if_pos rfl] at H;exact H
             clear H
             have H := H1
             clear H1
             have H' := Aside0.mk H
             clear H
             obtain ⟨Ao71, co71, eo71⟩ := Kd.R_slice HO396.out
             subst eo71
             obtain ⟨Ao72, co72, eo72⟩ := Kd.R_slice HO_4.out
             subst eo72
             go_wp2_with (first | ((with_reducible refine gate_callee (f := 15) rfl ?_);refine goesL_ (some 81) rfl rfl Try.func15 (by kernel_rfl) rfl #[.slice Ao71 t394.length co71, .slice Ao72 t365.length co72] rfl mM ?_;(with_reducible refine (laws_eqIntS.calls kj36 _ _ t394 _ _ t365 true _ ?side1 ?side2 ?side3 ?side4 A69.out).mono ?_);(case side1 => exact cP (Kd.R_reads' HO396.out).2.2);(case side2 => exact (Kd.R_reads' HO396.out).2.1);(case side3 => exact cP (Kd.R_reads' HO_4.out).2.2);(case side4 => exact (Kd.R_reads' HO_4.out).2.1);rintro e w' ⟨rfl, ⟨nd, rfl⟩⟩;refine ⟨_, rfl, ?_⟩))
             go_meet
             case rel => exact ⟨_, ((t397 != t368)), (by first | rfl | (simp;done) | (simp [*];done)), H', ⟨by have := HJ10.out;have := HJ36.out;first | omega | exact Nat.le_refl _⟩, ⟨by (try simp only [hl374001_36]);refine rP ?_;exact Kd.R_mono HO_7.out (fun _ hk => trivial)⟩, ⟨by (try simp only [hl374001_36]);refine rP ?_;exact Kd.R_mono HO_374001.out (fun _ hk => trivial)⟩, ⟨by (try simp only [hl374001_36]);exact kP BK359.out⟩, ⟨by (try simp only [hl374001_36]);exact kP BK373.out⟩, ⟨by exact bB⟩⟩
            ·replace c70 := Bool.eq_false_iff.mpr c70
             subst c70
             have H1 : (laws_FnExactBestBurning.j2 kj36 t388 t387 true) = some r := by rw [if_neg (show ¬ (false = true) by decide)] at H;exact H
             clear H
             have H := H1
             clear H1
             have H' := Aside0.mk H
             clear H
             obtain ⟨Ao73, co73, eo73⟩ := Kd.R_slice HO396.out
             subst eo73
             obtain ⟨Ao74, co74, eo74⟩ := Kd.R_slice HO_4.out
             subst eo74
             go_wp2_with (first | ((with_reducible refine gate_callee (f := 15) rfl ?_);refine goesL_ (some 81) rfl rfl Try.func15 (by kernel_rfl) rfl #[.slice Ao73 t394.length co73, .slice Ao74 t365.length co74] rfl mM ?_;(with_reducible refine (laws_eqIntS.calls kj36 _ _ t394 _ _ t365 false _ ?side1 ?side2 ?side3 ?side4 A69.out).mono ?_);(case side1 => exact cP (Kd.R_reads' HO396.out).2.2);(case side2 => exact (Kd.R_reads' HO396.out).2.1);(case side3 => exact cP (Kd.R_reads' HO_4.out).2.2);(case side4 => exact (Kd.R_reads' HO_4.out).2.1);rintro e w' ⟨rfl, ⟨nd, rfl⟩⟩;refine ⟨_, rfl, ?_⟩))
             go_meet
             case rel => exact ⟨_, (true), (by first | rfl | (simp;done) | (simp [*];done)), H', ⟨by have := HJ10.out;have := HJ36.out;first | omega | exact Nat.le_refl _⟩, ⟨by (try simp only [hl374001_36]);refine rP ?_;exact Kd.R_mono HO_7.out (fun _ hk => trivial)⟩, ⟨by (try simp only [hl374001_36]);refine rP ?_;exact Kd.R_mono HO_374001.out (fun _ hk => trivial)⟩, ⟨by (try simp only [hl374001_36]);exact kP BK359.out⟩, ⟨by (try simp only [hl374001_36]);exact kP BK373.out⟩, ⟨by exact bB⟩⟩
           case rest =>
            clear HC61
            try clear c1
            try clear c2
            try clear p2
            try clear c3
            try clear c3b0
            try clear c4
            try clear c5
            try clear c6
            try clear c7
            try clear c9
            try clear c11
            try clear c14
            try clear c15
            try clear c21
            try clear c22
            try clear c24
            try clear c25
            try clear c26
            try clear c27
            try clear c32
            try clear c35
            try clear c42
            try clear c45
            try clear c45b0
            try clear c47
            try clear c52
            try clear c55
            try clear c55b0
            try clear c58
            try clear c58b0
            try clear c58b1
            try clear c64
            try clear c70
            try clear hcz13_0
            try clear hcz13_1
            try clear hcz15_0
            try clear hcz15_1
            try clear hcz19_0
            try clear hcz19_1
            try clear hcz23_0
            try clear hcz23_1
            try clear hcz43_0
            try clear hcz43_1
            try clear hcz5_0
            try clear hcz5_1
            try clear hcz65_0
            try clear hcz65_1
            try clear hfz13_0
            try clear hfz13_1
            try clear hfz15_0
            try clear hfz15_1
            try clear hfz19_0
            try clear hfz19_1
            try clear hfz23_0
            try clear hfz23_1
            try clear hfz43_0
            try clear hfz43_1
            try clear hfz5_0
            try clear hfz5_1
            try clear hfz65_0
            try clear hfz65_1
            try clear p2
            obtain ⟨kq, x87_60, rfl, HA, HJ60, HO_7, HO_374001, BK359, BK373, HB⟩ := hcut
            have hl7_60 := (Kd.R_reads' HO_7.out).1
            rw [hl7_60] at HO_7
            (try simp only [hl7_60])
            (try simp only [hl7_60] at BK359)
            (try simp only [hl7_60] at BK373)
            (try simp only [hl7_60] at HO_374001)
            cases kq with
            | zero => exact absurd HA.out (by simp [laws_FnExactBestBurning.j2])
            | succ kj60 =>
             have H := HA.out
             clear HA
             simp only [laws_FnExactBestBurning.j2] at H
             by_cases c75 : x87_60 = true
             ·subst c75
              have H1 : (some false) = some r := by rw [if_pos rfl] at H;exact H
              clear H
              have H := H1
              clear H1
              obtain rfl := Option.some.inj H
              go_wp2
              go_ret
              exact ⟨by first | rfl | (simp [errW_none, errW_some] <;> rfl) | (simp [*, errW_none, errW_some] <;> rfl), by exact bB⟩
             ·replace c75 := Bool.eq_false_iff.mpr c75
              subst c75
              have H1 : ((laws_heldIntS.f kj60 t388 1).bind fun t399 => (if t399 < 0 then (some false) else (if t399 = t387 then (some true) else (some false)))) = some r := by rw [if_neg (show ¬ (false = true) by decide)] at H;exact H
              clear H
              have H := H1
              clear H1
              replace H := Option.bind_eq_some_iff.mp H
              obtain ⟨t399, A760, H⟩ := H
              replace H : (if t399 < 0 then (some false) else (if t399 = t387 then (some true) else (some false))) = some r := H
              have A76 := Aside0.mk A760
              clear A760
              by_cases c77 : t399 < 0
              ·rw [if_pos c77] at H
               have c77b0 : decide (t399 < 0) = true := decide_eq_true c77
               clear c77
               obtain rfl := Option.some.inj H
               go_wp2_with (first | ((with_reducible refine gate_callee (f := 27) rfl ?_);refine goesL_ (some 90) rfl rfl Try.func27 (by kernel_rfl) rfl #[.slice Ao62 t388.length co62, .int .i64 1] rfl mM ?_;(with_reducible refine (laws_heldIntS.calls kj60 _ _ t388 1 t399 _ ?side1 ?side2 A76.out).mono ?_);(case side1 => exact cP (Kd.R_reads' HO_7.out).2.2);(case side2 => exact (Kd.R_reads' HO_7.out).2.1);rintro e w' ⟨rfl, ⟨nd, rfl⟩⟩;refine ⟨_, rfl, ?_⟩))
               go_ret
               exact ⟨by first | rfl | (simp [errW_none, errW_some] <;> rfl) | (simp [*, errW_none, errW_some] <;> rfl), by exact bB⟩
              ·rw [if_neg c77] at H
               have c77b0 : decide (t399 < 0) = false := decide_eq_false c77
               clear c77
               by_cases c78 : t399 = t387
               ·rw [if_pos c78] at H
                have c78b0 : (t399 == t387) = true := beq_iff_eq.mpr c78
                have c78b1 : (t399 != t387) = false := bne_eq_false_iff_eq.mpr c78
                clear c78
                obtain rfl := Option.some.inj H
                go_wp2_with (first | ((with_reducible refine gate_callee (f := 27) rfl ?_);refine goesL_ (some 90) rfl rfl Try.func27 (by kernel_rfl) rfl #[.slice Ao62 t388.length co62, .int .i64 1] rfl mM ?_;(with_reducible refine (laws_heldIntS.calls kj60 _ _ t388 1 t399 _ ?side1 ?side2 A76.out).mono ?_);(case side1 => exact cP (Kd.R_reads' HO_7.out).2.2);(case side2 => exact (Kd.R_reads' HO_7.out).2.1);rintro e w' ⟨rfl, ⟨nd, rfl⟩⟩;refine ⟨_, rfl, ?_⟩))
                go_ret
                exact ⟨by first | rfl | (simp [errW_none, errW_some] <;> rfl) | (simp [*, errW_none, errW_some] <;> rfl), by exact bB⟩
               ·rw [if_neg c78] at H
                have c78b0 : (t399 == t387) = false := beq_eq_false_iff_ne.mpr c78
                have c78b1 : (t399 != t387) = true := bne_iff_ne.mpr c78
                obtain rfl := Option.some.inj H
                go_wp2_with (first | ((with_reducible refine gate_callee (f := 27) rfl ?_);refine goesL_ (some 90) rfl rfl Try.func27 (by kernel_rfl) rfl #[.slice Ao62 t388.length co62, .int .i64 1] rfl mM ?_;(with_reducible refine (laws_heldIntS.calls kj60 _ _ t388 1 t399 _ ?side1 ?side2 A76.out).mono ?_);(case side1 => exact cP (Kd.R_reads' HO_7.out).2.2);(case side2 => exact (Kd.R_reads' HO_7.out).2.1);rintro e w' ⟨rfl, ⟨nd, rfl⟩⟩;refine ⟨_, rfl, ?_⟩))
                go_ret
                exact ⟨by first | rfl | (simp [errW_none, errW_some] <;> rfl) | (simp [*, errW_none, errW_some] <;> rfl), by exact bB⟩
          ·rw [if_neg c58] at H
           have c58b0 : (t389 == t387) = false := beq_eq_false_iff_ne.mpr c58
           have c58b1 : (t389 != t387) = true := bne_iff_ne.mpr c58
           obtain rfl := Option.some.inj H
           obtain ⟨Ao79, co79, eo79⟩ := Kd.R_slice HO_7.out
           subst eo79
           go_wp2_with (first | ((with_reducible refine gate_callee (f := 26) rfl ?_);refine goesL_ (some 64) rfl rfl Try.func26 (by kernel_rfl) rfl #[.slice Ao79 t374.length co79, .int .i64 1] rfl mM ?_;(with_reducible refine (laws_markIntS.calls kj36 (fun k_ => some k_ = (.slice Ao79 t374.length co79 : Value).ownBlock) (.slice Ao79 t374.length co79) t374 1 t387 t388 w _ ?side1 ?side2 A53.out).mono ?_);(case side1 => exact bB);(case side2 => exact Kd.R_tight rfl HO_7.out);rintro e w80 ⟨rfl, hy0, hb, hkp⟩;refine ⟨_, rfl, ?_⟩;have n0_ := Aside0.mk (Kd.R_mono (ok' := fun k_ => some k_ ≠ (.slice Ao79 t374.length co79 : Value).ownBlock) (Kd.R_keptB (HO_4.out) hkp (fun k_ hk_ hs_ => (hk_) hs_)) (fun k_ hk_ => hk_.1));have n1_ := Aside0.mk (Kd.R_reok rfl hy0 (fun k_ e_ => HO_7.out.1 k_ e_));have n2_ := Aside0.mk (Kd.R_mono (ok' := fun k_ => True) (Kd.R_keptB ((Kd.R_apart' HO_374001.out (Kd.R_typed HO_7.out) (by decide))) hkp (fun k_ hk_ hs_ => (hk_.2) hs_)) (fun k_ hk_ => trivial));have n3_ := Aside0.mk (blk_kept (by exact kP BK359.out) hkp (fun hs_ => (fun e_ => (Kd.R_ne HO_7.out BK359.out (by decide)) e_) hs_));have n4_ := Aside0.mk (blk_kept (by exact kP BK373.out) hkp (fun hs_ => (fun e_ => (Kd.R_ne HO_7.out BK373.out (by decide)) e_) hs_));have n5_ := Aside0.mk (hb);clear HO_4;clear HO_7;clear HO_374001;clear BK359;clear BK373;clear HB;have HO_4 := n0_;have HO_7 := n1_;have HO_374001 := n2_;have BK359 := n3_;have BK373 := n4_;have HB := n5_;clear n0_ n1_ n2_ n3_ n4_ n5_;(try clear hb);(try clear hkp);(try clear hy0)) | ((with_reducible refine gate_callee (f := 27) rfl ?_);refine goesL_ (some 67) rfl rfl Try.func27 (by kernel_rfl) rfl #[.slice Ao79 t388.length co79, .int .i64 1] rfl (by (try simp only [List.map_toArray, List.map_cons, List.map_nil]);first | done | (rw [show t388.length = t374.length from (Kd.R_reads' HO_7.out).1.symm] <;> rfl) | rfl | (simp only [List.length_drop, List.length_take];rfl)) ?_;(with_reducible refine (laws_heldIntS.calls kj36 _ _ t388 1 t389 _ ?side1 ?side2 A54.out).mono ?_);(case side1 => exact cP (Kd.R_reads' HO_7.out).2.2);(case side2 => rw [show t388.length = t374.length from (Kd.R_reads' HO_7.out).1.symm];exact (Kd.R_reads' HO_7.out).2.1);rintro e w' ⟨rfl, ⟨nd, rfl⟩⟩;refine ⟨_, rfl, ?_⟩))
           go_ret
           exact ⟨by first | rfl | (simp [errW_none, errW_some] <;> rfl) | (simp [*, errW_none, errW_some] <;> rfl), by exact bB⟩
     ·replace c35 := Bool.eq_false_iff.mpr c35
      subst c35
      have H1 : (some false) = some r := by rw [if_neg (show ¬ (false = true) by decide)] at H;exact H
      clear H
      have H := H1
      clear H1
      obtain rfl := Option.some.inj H
      try go_wp2
      have n0_ := Aside0.mk (Kd.R_drew HO_4.out)
      have n1_ := Aside0.mk (Kd.R_drew HO_7.out)
      have n2_ := Aside0.mk (Kd.R_drew HO_374001.out)
      have n3_ := Aside0.mk (blk_drew BK359.out)
      have n4_ := Aside0.mk (blk_drew BK373.out)
      have n5_ := Aside0.mk (below_drew1 HB.out)
      clear HO_4
      clear HO_7
      clear HO_374001
      clear BK359
      clear BK373
      clear HB
      have HO_4 := n0_
      have HO_7 := n1_
      have HO_374001 := n2_
      have BK359 := n3_
      have BK373 := n4_
      have HB := n5_
      clear n0_ n1_ n2_ n3_ n4_ n5_
      refine start_ (n := 5) (S := fun w' => w'.cell? ⟨gb373, 0, none⟩ = some (.int .i64 t369) ∧ w'.cell? ⟨gb373, 1, none⟩ = some (.slice Ao24 t370.length co24) ∧ w'.cell? ⟨gb359, 0, none⟩ = some (.int .i64 a0_0) ∧ w'.cell? ⟨gb359, 1, none⟩ = some (.slice A0_1 l0_1.length c0_1)) (ds := []) #[false,false,false,false,false] (by kernel_rfl) rfl rfl ⟨(blk_cell BK373.out 0).trans rfl, (blk_cell BK373.out 1).trans rfl, (blk_cell BK359.out 0).trans rfl, (blk_cell BK359.out 1).trans rfl⟩ (fun hHeld => ?_)
      generalize wc.drew = w81 at HO_4 HO_7 HO_374001 BK359 BK373 HB hHeld ⊢
      refine take_ (i := 0) (N := some 41) (v := ?_) (a' := ?_) #[true,false,false,false,false] rfl rfl (by kernel_rfl) (fun _ _ _ h => h) (Or.inl ⟨by rfl, ?_⟩) hHeld ?_ ?_
      rotate_left
      ·rintro w' ⟨s0, s1, s2, s3⟩
       go_simp
       with_reducible rfl
      rotate_left
      ·simp only [Act.put, List.setIfInBounds_toArray, List.set_cons_zero, List.set_cons_succ, i64_w, i32_w]
       rfl
      refine take_ (i := 1) (N := some 42) (v := ?_) (a' := ?_) #[true,true,false,false,false] rfl rfl (by kernel_rfl) (fun _ _ _ h => h) (Or.inl ⟨by rfl, ?_⟩) hHeld ?_ ?_
      rotate_left
      ·rintro w' ⟨s0, s1, s2, s3⟩
       go_simp
       with_reducible rfl
      rotate_left
      ·simp only [Act.put, List.setIfInBounds_toArray, List.set_cons_zero, List.set_cons_succ, i64_w, i32_w]
       rfl
      refine one_ (i := 2) (N := some 43) #[true,true,true,false,false] rfl rfl (by kernel_rfl) (by decide) (fun K hK => ?_)
      refine goes_ Try.func11 (by kernel_rfl) rfl #[.agg #[.int .i64 a0_0, .slice A0_1 l0_1.length c0_1]] (by rfl) rfl rfl mM ?_
      with_reducible refine (laws_toGraph.calls kj10 a0_0 _ _ l0_1 t379 t380 _ ?side1 ?side2 A33.out).mono ?_
      (case side1 => exact cP (Kd.C_below HR0_1.out HB.out))
      (case side2 => exact HC0_1.out)
      rintro e w82 ⟨v381, rfl, ho0, hb⟩
      refine ⟨_, rfl, ?_⟩
      have n0_ := Aside0.mk (Kd.R_below (by exact rP HO_4.out) hb)
      have n1_ := Aside0.mk (Kd.R_below (by exact rP HO_7.out) hb)
      have n2_ := Aside0.mk (Kd.R_elder' (by exact rP HO_374001.out) (Kd.R_base ho0) hb)
      have n3_ := Aside0.mk (Kd.R_lower (Kd.R_new' ho0 (Kd.R_lt (by exact rP HO_374001.out))) (below_size (by exact bB)))
      have n4_ := Aside0.mk (blk_below (g := gb359) (o := .cells #[.int .i64 a0_0, .slice A0_1 l0_1.length c0_1] 24 (0, 0)) (by exact kP BK359.out) hb)
      have n5_ := Aside0.mk (blk_below (g := gb373) (o := .cells #[.int .i64 t369, .slice Ao24 t370.length co24] 29 (0, 0)) (by exact kP BK373.out) hb)
      have n6_ := Aside0.mk (below_step (by exact bB) hb)
      clear HO_4
      clear HO_7
      clear HO_374001
      clear BK359
      clear BK373
      clear HB
      have HO_4 := n0_
      have HO_7 := n1_
      have HO_374001 := n2_
      have HO382 := n3_
      have BK359 := n4_
      have BK373 := n5_
      have HB := n6_
      clear n0_ n1_ n2_ n3_ n4_ n5_ n6_
      (try clear hb)
      (try clear hb2)
      (try clear hk)
      (try clear hi)
      (try clear ho0)
      obtain ⟨Ao83, co83, eo83⟩ := Kd.R_slice HO382.out
      (first | subst eo83 | (injection eo83 with f1_ f2_ f3_;have f4_ := f1_.symm;have f5_ := f3_.symm;clear f1_ f2_ f3_;subst f4_;subst f5_))
      refine hK.out _ _ ⟨(blk_cell BK373.out 0).trans rfl, (blk_cell BK373.out 1).trans rfl, (blk_cell BK359.out 0).trans rfl, (blk_cell BK359.out 1).trans rfl⟩ (fun hHeld => ?_)
      clear hK K
      refine norm_ (a' := ?_) ?_ ?_
      rotate_left
      ·show Act.put _ (some 43) _ = _
       simp only [Act.put, List.setIfInBounds_toArray, List.set_cons_zero, List.set_cons_succ, i64_w, i32_w]
       rfl
      refine one_ (i := 3) (N := some 44) #[true,true,true,true,false] rfl rfl (by kernel_rfl) (by decide) (fun K hK => ?_)
      refine goes_ Try.func14 (by kernel_rfl) rfl #[.agg #[.int .i64 t369, .slice Ao24 t370.length co24], .agg #[.int .i64 t379, .slice Ao83 t380.length co83]] (by rfl) rfl rfl mM ?_
      with_reducible refine (laws_eqGraph.calls kj10 t369 _ _ t370 t379 _ _ t380 false _ ?side1 ?side2 ?side3 ?side4 A34.out).mono ?_
      (case side1 => exact cP (Kd.R_reads' HO_374001.out).2.2)
      (case side2 => exact (Kd.R_reads' HO_374001.out).2.1)
      (case side3 => exact cP (Kd.R_reads' HO382.out).2.2)
      (case side4 => exact (Kd.R_reads' HO382.out).2.1)
      rintro e w84 ⟨rfl, hb⟩
      refine ⟨_, rfl, ?_⟩
      have n0_ := Aside0.mk (Kd.R_below (by exact rP HO_4.out) hb)
      have n1_ := Aside0.mk (Kd.R_below (by exact rP HO_7.out) hb)
      have n2_ := Aside0.mk (Kd.R_below (by exact rP HO_374001.out) hb)
      have n3_ := Aside0.mk (Kd.R_below (by exact rP HO382.out) hb)
      have n4_ := Aside0.mk (blk_below (g := gb359) (o := .cells #[.int .i64 a0_0, .slice A0_1 l0_1.length c0_1] 24 (0, 0)) (by exact kP BK359.out) hb)
      have n5_ := Aside0.mk (blk_below (g := gb373) (o := .cells #[.int .i64 t369, .slice Ao24 t370.length co24] 29 (0, 0)) (by exact kP BK373.out) hb)
      have n6_ := Aside0.mk (below_step (by exact bB) hb)
      clear HO_4
      clear HO_7
      clear HO_374001
      clear HO382
      clear BK359
      clear BK373
      clear HB
      have HO_4 := n0_
      have HO_7 := n1_
      have HO_374001 := n2_
      have HO382 := n3_
      have BK359 := n4_
      have BK373 := n5_
      have HB := n6_
      clear n0_ n1_ n2_ n3_ n4_ n5_ n6_
      (try clear hb)
      (try clear hb2)
      (try clear hk)
      (try clear hi)
      refine hK.out _ _ ⟨(blk_cell BK373.out 0).trans rfl, (blk_cell BK373.out 1).trans rfl, (blk_cell BK359.out 0).trans rfl, (blk_cell BK359.out 1).trans rfl⟩ (fun hHeld => ?_)
      clear hK K
      refine norm_ (a' := ?_) ?_ ?_
      rotate_left
      ·show Act.put _ (some 44) _ = _
       simp only [Act.put, List.setIfInBounds_toArray, List.set_cons_zero, List.set_cons_succ, i64_w, i32_w]
       rfl
      refine pure_ (i := 4) (N := some 45) (v := ?_) (a' := ?_) #[true,true,true,true,true] rfl rfl (by kernel_rfl) (fun _ _ _ h => h) (Or.inl ⟨by rfl, ?_⟩) ?_ ?_
      rotate_left
      ·intro w'
       go_simp
       with_reducible rfl
      rotate_left
      ·simp only [Act.put, List.setIfInBounds_toArray, List.set_cons_zero, List.set_cons_succ, i64_w, i32_w]
       rfl
      refine done_ (by kernel_rfl) ?_
      try go_wp2
      go_ret
      exact ⟨by first | rfl | (simp [errW_none, errW_some] <;> rfl) | (simp [*, errW_none, errW_some] <;> rfl), by exact bB⟩


end Go.Proofs.Ytaddgielnfhhpaa.QBestBurning
