import Derived.Test.YtgahlimikndecaaDoorQBestAnswer0
import Derived.Test.YtgahlimikndecaaDoorQBestAnswer5
import Derived.Test.YtgahlimikndecaaDoorQBestAnswer9
namespace Go.Proofs.YtgahlimikndecaaDoor.QBestAnswer
open Go.RowKit Go.Proofs.YtgahlimikndecaaDoorW.PrintWords Go.Proofs.YtgahlimikndecaaDoorW.PrintLast Go.Proofs.YtgahlimikndecaaDoorW.PrintMore
attribute [local go_sem] max2_int min2_int max_two min_two max_three min_three max_four min_four   -- for this text's walks alone
set_option linter.unusedVariables false
set_option linter.unusedSimpArgs false
set_option maxRecDepth 100000
set_option maxHeartbeats 8000000
/-! ### laws_FnExactBestAnswer: function 5 -/
mutual
def laws_FnExactBestAnswer.j0 : Nat → List Int → Int → Bool → List Int → Bool → List Int → List Int → Bool → Bool → Int → List (S78) → Int → List (S78) → Option (Bool)
 | 0, _, _, _, _, _, _, _, _, _, _, _, _, _ => none
 | k + 1, x1, x2, x3, x10, x11, x13, x14, x15, x59, x692000, x692001, x709000, x709001 => if x59 = true then (some false) else ((laws_toGraph.f k x692000 x692001).bind fun bt717 => ((laws_eqGraph.f k x709000 x709001 bt717.1 bt717.2).bind fun t721 => (if t721 = true then ((laws_toIntS.f k x1).bind fun t722 => ((laws_eqIntS.f k x13 t722).bind fun t725 => (if t725 = true then ((laws_markGraph.f x709000 x709001 1).bind fun bt726 => ((laws_markIntS.f k x13 bt726.1).bind fun bt728 => (if bt728.1 < 0 then (laws_FnExactBestAnswer.j1 k x1 x2 x3 x10 x11 x14 true x692000 x692001) else ((laws_eqIntS.f k x14 x10).bind fun t730 => (if t730 = true then (laws_FnExactBestAnswer.j1 k x1 x2 x3 x10 x11 x14 (x15 != x11) x692000 x692001) else (laws_FnExactBestAnswer.j1 k x1 x2 x3 x10 x11 x14 true x692000 x692001)))))) else (some false)))) else (some false))))
def laws_FnExactBestAnswer.j1 : Nat → List Int → Int → Bool → List Int → Bool → List Int → Bool → Int → List (S78) → Option (Bool)
 | 0, _, _, _, _, _, _, _, _, _ => none
 | k + 1, x1, x2, x3, x10, x11, x14, x88, x692000, x692001 => if x88 = true then (some false) else ((laws_markIntS.f k x14 1).bind fun bt731 => ((laws_heldIntS.f k bt731.2 1).bind fun t733 => (if t733 < 0 then (some false) else (if t733 = bt731.1 then ((laws_toGraph.f k x692000 x692001).bind fun bt734 => ((laws_toIntS.f k x1).bind fun t738 => ((impl_BestAnswer.f k bt734.1 bt734.2 t738 x2 x3).bind fun bt741 => ((laws_eqIntS.f k bt741.1 x10).bind fun t745 => (if t745 = true then (laws_FnExactBestAnswer.j2 k bt731.2 bt731.1 (bt741.2 != x11)) else (laws_FnExactBestAnswer.j2 k bt731.2 bt731.1 true)))))) else (some false)))))
def laws_FnExactBestAnswer.j2 : Nat → List Int → Int → Bool → Option (Bool)
 | 0, _, _, _ => none
 | k + 1, x14, x17, x118 => if x118 = true then (some false) else ((laws_heldIntS.f k x14 1).bind fun t746 => (if t746 < 0 then (some false) else (if t746 = x17 then (some true) else (some false))))
end
def laws_FnExactBestAnswer.f (k : Nat) (a0_0 : Int) (l0_1 : List (S78)) (l1 : List Int) (a2 : Int) (a3 : Bool) : Option (Bool) := if (l1.length : Int) > 1048576 then (some true) else ((laws_szGraph.f a0_0 l0_1 1048576).bind fun t692 => (if t692 < 0 then (some true) else ((laws_toGraph.f k a0_0 l0_1).bind fun bt693 => ((laws_toIntS.f k l1).bind fun t697 => ((spec_BestAnswer.f k bt693.1 bt693.2 t697 a2 a3).bind fun bt700 => ((laws_toGraph.f k a0_0 l0_1).bind fun bt704 => ((laws_toIntS.f k l1).bind fun t709 => ((impl_BestAnswer.f k bt704.1 bt704.2 t709 a2 a3).bind fun bt712 => ((laws_eqIntS.f k bt712.1 bt700.1).bind fun t716 => (if t716 = true then (laws_FnExactBestAnswer.j0 k l1 a2 a3 bt700.1 bt700.2 t709 bt712.1 bt712.2 (bt712.2 != bt700.2) a0_0 l0_1 bt704.1 bt704.2) else (laws_FnExactBestAnswer.j0 k l1 a2 a3 bt700.1 bt700.2 t709 bt712.1 bt712.2 true a0_0 l0_1 bt704.1 bt704.2)))))))))))
theorem laws_FnExactBestAnswer.mono_l : ∀ k, (∀ y0 y1 y2 y3 y4 y5 y6 y7 y8 y9 y10 y11 y12, LeO (laws_FnExactBestAnswer.j0 k y0 y1 y2 y3 y4 y5 y6 y7 y8 y9 y10 y11 y12) (laws_FnExactBestAnswer.j0 (k + 1) y0 y1 y2 y3 y4 y5 y6 y7 y8 y9 y10 y11 y12)) ∧ (∀ y0 y1 y2 y3 y4 y5 y6 y7 y8, LeO (laws_FnExactBestAnswer.j1 k y0 y1 y2 y3 y4 y5 y6 y7 y8) (laws_FnExactBestAnswer.j1 (k + 1) y0 y1 y2 y3 y4 y5 y6 y7 y8)) ∧ (∀ y0 y1 y2, LeO (laws_FnExactBestAnswer.j2 k y0 y1 y2) (laws_FnExactBestAnswer.j2 (k + 1) y0 y1 y2))
 | 0 => ⟨fun _ _ _ _ _ _ _ _ _ _ _ _ _ r h => by simp [laws_FnExactBestAnswer.j0] at h, fun _ _ _ _ _ _ _ _ _ r h => by simp [laws_FnExactBestAnswer.j1] at h, fun _ _ _ r h => by simp [laws_FnExactBestAnswer.j2] at h⟩
 | k + 1 => by
  obtain ⟨ih0, ih1, ih2⟩ := laws_FnExactBestAnswer.mono_l k
  refine ⟨?_, ?_, ?_⟩
  ·intro y0 y1 y2 y3 y4 y5 y6 y7 y8 y9 y10 y11 y12
   unfold laws_FnExactBestAnswer.j0
   repeat' first
   | (with_reducible exact ih0 _ _ _ _ _ _ _ _ _ _ _ _ _)
   | (with_reducible exact ih1 _ _ _ _ _ _ _ _ _)
   | (with_reducible exact ih2 _ _ _)
   | (with_reducible exact impl_BestAnswer.mono _ _ _ _ _ _)
   | (with_reducible exact laws_eqGraph.mono _ _ _ _ _)
   | (with_reducible exact laws_eqIntS.mono _ _ _)
   | (with_reducible exact laws_heldIntS.mono _ _ _)
   | (with_reducible exact laws_markIntS.mono _ _ _)
   | (with_reducible exact laws_toGraph.mono _ _ _)
   | (with_reducible exact laws_toIntS.mono _ _)
   | (with_reducible exact spec_BestAnswer.mono _ _ _ _ _ _)
   | (with_reducible exact LeO.refl _)
   | (with_reducible exact LeO.none _)
   | (with_reducible refine LeO.ite ?_ ?_)
   | (with_reducible refine LeO.bind ?_ (fun _ => ?_))
   | exact LeO.none _
   | refine LeO.ite ?_ ?_
   | refine LeO.bind ?_ (fun _ => ?_)
  ·intro y0 y1 y2 y3 y4 y5 y6 y7 y8
   unfold laws_FnExactBestAnswer.j1
   repeat' first
   | (with_reducible exact ih0 _ _ _ _ _ _ _ _ _ _ _ _ _)
   | (with_reducible exact ih1 _ _ _ _ _ _ _ _ _)
   | (with_reducible exact ih2 _ _ _)
   | (with_reducible exact impl_BestAnswer.mono _ _ _ _ _ _)
   | (with_reducible exact laws_eqGraph.mono _ _ _ _ _)
   | (with_reducible exact laws_eqIntS.mono _ _ _)
   | (with_reducible exact laws_heldIntS.mono _ _ _)
   | (with_reducible exact laws_markIntS.mono _ _ _)
   | (with_reducible exact laws_toGraph.mono _ _ _)
   | (with_reducible exact laws_toIntS.mono _ _)
   | (with_reducible exact spec_BestAnswer.mono _ _ _ _ _ _)
   | (with_reducible exact LeO.refl _)
   | (with_reducible exact LeO.none _)
   | (with_reducible refine LeO.ite ?_ ?_)
   | (with_reducible refine LeO.bind ?_ (fun _ => ?_))
   | exact LeO.none _
   | refine LeO.ite ?_ ?_
   | refine LeO.bind ?_ (fun _ => ?_)
  ·intro y0 y1 y2
   unfold laws_FnExactBestAnswer.j2
   repeat' first
   | (with_reducible exact ih0 _ _ _ _ _ _ _ _ _ _ _ _ _)
   | (with_reducible exact ih1 _ _ _ _ _ _ _ _ _)
   | (with_reducible exact ih2 _ _ _)
   | (with_reducible exact impl_BestAnswer.mono _ _ _ _ _ _)
   | (with_reducible exact laws_eqGraph.mono _ _ _ _ _)
   | (with_reducible exact laws_eqIntS.mono _ _ _)
   | (with_reducible exact laws_heldIntS.mono _ _ _)
   | (with_reducible exact laws_markIntS.mono _ _ _)
   | (with_reducible exact laws_toGraph.mono _ _ _)
   | (with_reducible exact laws_toIntS.mono _ _)
   | (with_reducible exact spec_BestAnswer.mono _ _ _ _ _ _)
   | (with_reducible exact LeO.refl _)
   | (with_reducible exact LeO.none _)
   | (with_reducible refine LeO.ite ?_ ?_)
   | (with_reducible refine LeO.bind ?_ (fun _ => ?_))
   | exact LeO.none _
   | refine LeO.ite ?_ ?_
   | refine LeO.bind ?_ (fun _ => ?_)
theorem laws_FnExactBestAnswer.mono : ∀ a0 a1 a2 a3 a4 k, LeO (laws_FnExactBestAnswer.f k a0 a1 a2 a3 a4) (laws_FnExactBestAnswer.f (k + 1) a0 a1 a2 a3 a4) := by
 intro a0 a1 a2 a3 a4 k
 obtain ⟨ih0, ih1, ih2⟩ := laws_FnExactBestAnswer.mono_l k
 unfold laws_FnExactBestAnswer.f
 repeat' first
   | (with_reducible exact ih0 _ _ _ _ _ _ _ _ _ _ _ _ _)
   | (with_reducible exact ih1 _ _ _ _ _ _ _ _ _)
   | (with_reducible exact ih2 _ _ _)
   | (with_reducible exact impl_BestAnswer.mono _ _ _ _ _ _)
   | (with_reducible exact laws_eqGraph.mono _ _ _ _ _)
   | (with_reducible exact laws_eqIntS.mono _ _ _)
   | (with_reducible exact laws_heldIntS.mono _ _ _)
   | (with_reducible exact laws_markIntS.mono _ _ _)
   | (with_reducible exact laws_toGraph.mono _ _ _)
   | (with_reducible exact laws_toIntS.mono _ _)
   | (with_reducible exact spec_BestAnswer.mono _ _ _ _ _ _)
   | (with_reducible exact LeO.refl _)
   | (with_reducible exact LeO.none _)
   | (with_reducible refine LeO.ite ?_ ?_)
   | (with_reducible refine LeO.bind ?_ (fun _ => ?_))
   | exact LeO.none _
   | refine LeO.ite ?_ ?_
   | refine LeO.bind ?_ (fun _ => ?_)
theorem laws_FnExactBestAnswer.calls (k : Nat) (a0_0 : Int) (A0_1 : Option Addr) (c0_1 : Nat) (l0_1 : List (S78)) (A1 : Option Addr) (c1 : Nat) (l1 : List Int) (a2 : Int) (a3 : Bool) (r : Bool) (w : World) (hT : TabG w) (hr0_1 : Kd.C k78 w A0_1 l0_1.length l0_1) (hc0_1 : l0_1.length ≤ c0_1) (hr1 : Kd.C (Kd.int .i64) w A1 l1.length l1) (hc1 : l1.length ≤ c1) (h : laws_FnExactBestAnswer.f k a0_0 l0_1 l1 a2 a3 = some r) :
  Calls Tryd.prog 5 #[.agg #[.int .i64 a0_0, .slice A0_1 l0_1.length c0_1], .slice A1 l1.length c1, .int .i64 a2, .bool a3] w fun e w' => e = .returned (.bool r) ∧ Below w.heap.size w w' := by
 have hu24 := Tryd.underlying24
 have hu29 := Tryd.underlying29
 have HR0_1 := Aside0.mk hr0_1
 have HC0_1 := Aside0.mk hc0_1
 clear hr0_1 hc0_1
 have HR1 := Aside0.mk hr1
 have HC1 := Aside0.mk hc1
 clear hr1 hc1
 have HB := aM (Below.refl w.heap.size w)
 have HT := Aside0.mk hT
 clear hT
 have H : (if (l1.length : Int) > 1048576 then (some true) else ((laws_szGraph.f a0_0 l0_1 1048576).bind fun t692 => (if t692 < 0 then (some true) else ((laws_toGraph.f k a0_0 l0_1).bind fun bt693 => ((laws_toIntS.f k l1).bind fun t697 => ((spec_BestAnswer.f k bt693.1 bt693.2 t697 a2 a3).bind fun bt700 => ((laws_toGraph.f k a0_0 l0_1).bind fun bt704 => ((laws_toIntS.f k l1).bind fun t709 => ((impl_BestAnswer.f k bt704.1 bt704.2 t709 a2 a3).bind fun bt712 => ((laws_eqIntS.f k bt712.1 bt700.1).bind fun t716 => (if t716 = true then (laws_FnExactBestAnswer.j0 k l1 a2 a3 bt700.1 bt700.2 t709 bt712.1 bt712.2 (bt712.2 != bt700.2) a0_0 l0_1 bt704.1 bt704.2) else (laws_FnExactBestAnswer.j0 k l1 a2 a3 bt700.1 bt700.2 t709 bt712.1 bt712.2 true a0_0 l0_1 bt704.1 bt704.2)))))))))))) = some r := h
 clear h
 by_cases c5 : (l1.length : Int) > 1048576
 ·rw [if_pos c5] at H
  have c5b0 : decide (1048576 < (l1.length : Int)) = true := decide_eq_true c5
  have c5b1 : decide (1048576 < l1.length) = true := decide_eq_true (by omega)
  clear c5
  obtain rfl := Option.some.inj H
  go_enter Tryd.func5, Tryd.ntmps5
  go_wp2_with (first | ((with_reducible refine gate_dst (N := 4) rfl ?_);refine box_event ?hg (N := 4) ?hd (cs := #[.int .i64 a0_0, .slice A0_1 l0_1.length c0_1]) (t := 24) ?hr ?_;(case hd => rfl);(case hg => rfl);(case hr => exact gS);intro gb691 hg w6 hbox hb;have n0_ := aM (below_step (by exact bB) hb);have n1_ := aM (hbox);have n2_ := aM (sW hg : w.heap.size ≤ gb691);have n3_ := aM (sW hg : w.heap.size ≤ gb691);clear HB;have HB := n0_;have BK691 := n1_;have GW691 := n2_;have GE691 := n3_;clear n0_ n1_ n2_ n3_;clear hb hbox hg))
  go_ret
  exact ⟨eW, by exact bB⟩
 rw [if_neg c5] at H
 have c5b0 : decide (1048576 < (l1.length : Int)) = false := decide_eq_false c5
 have c5b1 : decide (1048576 < l1.length) = false := decide_eq_false (by omega)
 clear c5
 replace H := Option.bind_eq_some_iff.mp H
 obtain ⟨t692, A70, H⟩ := H
 replace H : (if t692 < 0 then (some true) else ((laws_toGraph.f k a0_0 l0_1).bind fun bt693 => ((laws_toIntS.f k l1).bind fun t697 => ((spec_BestAnswer.f k bt693.1 bt693.2 t697 a2 a3).bind fun bt700 => ((laws_toGraph.f k a0_0 l0_1).bind fun bt704 => ((laws_toIntS.f k l1).bind fun t709 => ((impl_BestAnswer.f k bt704.1 bt704.2 t709 a2 a3).bind fun bt712 => ((laws_eqIntS.f k bt712.1 bt700.1).bind fun t716 => (if t716 = true then (laws_FnExactBestAnswer.j0 k l1 a2 a3 bt700.1 bt700.2 t709 bt712.1 bt712.2 (bt712.2 != bt700.2) a0_0 l0_1 bt704.1 bt704.2) else (laws_FnExactBestAnswer.j0 k l1 a2 a3 bt700.1 bt700.2 t709 bt712.1 bt712.2 true a0_0 l0_1 bt704.1 bt704.2)))))))))) = some r := H
 have A7 := Aside0.mk A70
 clear A70
 by_cases c8 : t692 < 0
 ·rw [if_pos c8] at H
  have c8b0 : decide (t692 < 0) = true := decide_eq_true c8
  clear c8
  obtain rfl := Option.some.inj H
  go_enter Tryd.func5, Tryd.ntmps5
  go_wp2_with (first | ((with_reducible refine gate_dst (N := 4) rfl ?_);refine box_event ?hg (N := 4) ?hd (cs := #[.int .i64 a0_0, .slice A0_1 l0_1.length c0_1]) (t := 24) ?hr ?_;(case hd => rfl);(case hg => rfl);(case hr => exact gS);intro gb691 hg w9 hbox hb;have n0_ := aM (below_step (by exact bB) hb);have n1_ := aM (hbox);have n2_ := aM (sW hg : w.heap.size ≤ gb691);have n3_ := aM (sW hg : w.heap.size ≤ gb691);clear HB;have HB := n0_;have BK691 := n1_;have GW691 := n2_;have GE691 := n3_;clear n0_ n1_ n2_ n3_;clear hb hbox hg;have hcz10_0 := bC0 BK691.out;have hcz10_1 := bC1 BK691.out;have hfz10_0 := blk_frozen BK691.out 0;have hfz10_1 := blk_frozen BK691.out 1) | ((with_reducible refine gate_callee (f := 7) rfl ?_);refine goesL_ (some 26) rfl rfl Tryd.func7 (by kernel_rfl) rfl #[.agg #[.int .i64 a0_0, .slice A0_1 l0_1.length c0_1], .int .i64 1048576] rfl mM ?_;(with_reducible refine (laws_szGraph.calls a0_0 _ _ l0_1 1048576 t692 _ ?side1 ?side2 A7.out).mono ?_);(case side1 => exact cP (Kd.C_below HR0_1.out HB.out));(case side2 => exact HC0_1.out);rintro e w11 ⟨rfl, hb⟩;refine ⟨_, rfl, ?_⟩;have n0_ := aM (kB hb BK691.out);have n1_ := aM (below_step (by exact bB) hb);clear BK691;clear HB;have BK691 := n0_;have HB := n1_;clear n0_ n1_;(try clear hb)))
  go_ret
  exact ⟨eW, by exact bB⟩
 rw [if_neg c8] at H
 have c8b0 : decide (t692 < 0) = false := decide_eq_false c8
 clear c8
 replace H := Option.bind_eq_some_iff.mp H
 obtain ⟨⟨t693, t694⟩, A120, H⟩ := H
 replace H : ((laws_toIntS.f k l1).bind fun t697 => ((spec_BestAnswer.f k t693 t694 t697 a2 a3).bind fun bt700 => ((laws_toGraph.f k a0_0 l0_1).bind fun bt704 => ((laws_toIntS.f k l1).bind fun t709 => ((impl_BestAnswer.f k bt704.1 bt704.2 t709 a2 a3).bind fun bt712 => ((laws_eqIntS.f k bt712.1 bt700.1).bind fun t716 => (if t716 = true then (laws_FnExactBestAnswer.j0 k l1 a2 a3 bt700.1 bt700.2 t709 bt712.1 bt712.2 (bt712.2 != bt700.2) a0_0 l0_1 bt704.1 bt704.2) else (laws_FnExactBestAnswer.j0 k l1 a2 a3 bt700.1 bt700.2 t709 bt712.1 bt712.2 true a0_0 l0_1 bt704.1 bt704.2)))))))) = some r := H
 have A12 := Aside0.mk A120
 clear A120
 replace H := Option.bind_eq_some_iff.mp H
 obtain ⟨t697, A130, H⟩ := H
 replace H : ((spec_BestAnswer.f k t693 t694 t697 a2 a3).bind fun bt700 => ((laws_toGraph.f k a0_0 l0_1).bind fun bt704 => ((laws_toIntS.f k l1).bind fun t709 => ((impl_BestAnswer.f k bt704.1 bt704.2 t709 a2 a3).bind fun bt712 => ((laws_eqIntS.f k bt712.1 bt700.1).bind fun t716 => (if t716 = true then (laws_FnExactBestAnswer.j0 k l1 a2 a3 bt700.1 bt700.2 t709 bt712.1 bt712.2 (bt712.2 != bt700.2) a0_0 l0_1 bt704.1 bt704.2) else (laws_FnExactBestAnswer.j0 k l1 a2 a3 bt700.1 bt700.2 t709 bt712.1 bt712.2 true a0_0 l0_1 bt704.1 bt704.2))))))) = some r := H
 have A13 := Aside0.mk A130
 clear A130
 replace H := Option.bind_eq_some_iff.mp H
 obtain ⟨⟨t700, t703⟩, A140, H⟩ := H
 replace H : ((laws_toGraph.f k a0_0 l0_1).bind fun bt704 => ((laws_toIntS.f k l1).bind fun t709 => ((impl_BestAnswer.f k bt704.1 bt704.2 t709 a2 a3).bind fun bt712 => ((laws_eqIntS.f k bt712.1 t700).bind fun t716 => (if t716 = true then (laws_FnExactBestAnswer.j0 k l1 a2 a3 t700 t703 t709 bt712.1 bt712.2 (bt712.2 != t703) a0_0 l0_1 bt704.1 bt704.2) else (laws_FnExactBestAnswer.j0 k l1 a2 a3 t700 t703 t709 bt712.1 bt712.2 true a0_0 l0_1 bt704.1 bt704.2)))))) = some r := H
 have A14 := Aside0.mk A140
 clear A140
 replace H := Option.bind_eq_some_iff.mp H
 obtain ⟨⟨t704, t705⟩, A150, H⟩ := H
 replace H : ((laws_toIntS.f k l1).bind fun t709 => ((impl_BestAnswer.f k t704 t705 t709 a2 a3).bind fun bt712 => ((laws_eqIntS.f k bt712.1 t700).bind fun t716 => (if t716 = true then (laws_FnExactBestAnswer.j0 k l1 a2 a3 t700 t703 t709 bt712.1 bt712.2 (bt712.2 != t703) a0_0 l0_1 t704 t705) else (laws_FnExactBestAnswer.j0 k l1 a2 a3 t700 t703 t709 bt712.1 bt712.2 true a0_0 l0_1 t704 t705))))) = some r := H
 have A15 := Aside0.mk A150
 clear A150
 replace H := Option.bind_eq_some_iff.mp H
 obtain ⟨t709, A160, H⟩ := H
 replace H : ((impl_BestAnswer.f k t704 t705 t709 a2 a3).bind fun bt712 => ((laws_eqIntS.f k bt712.1 t700).bind fun t716 => (if t716 = true then (laws_FnExactBestAnswer.j0 k l1 a2 a3 t700 t703 t709 bt712.1 bt712.2 (bt712.2 != t703) a0_0 l0_1 t704 t705) else (laws_FnExactBestAnswer.j0 k l1 a2 a3 t700 t703 t709 bt712.1 bt712.2 true a0_0 l0_1 t704 t705)))) = some r := H
 have A16 := Aside0.mk A160
 clear A160
 replace H := Option.bind_eq_some_iff.mp H
 obtain ⟨⟨t712, t715⟩, A170, H⟩ := H
 replace H : ((laws_eqIntS.f k t712 t700).bind fun t716 => (if t716 = true then (laws_FnExactBestAnswer.j0 k l1 a2 a3 t700 t703 t709 t712 t715 (t715 != t703) a0_0 l0_1 t704 t705) else (laws_FnExactBestAnswer.j0 k l1 a2 a3 t700 t703 t709 t712 t715 true a0_0 l0_1 t704 t705))) = some r := H
 have A17 := Aside0.mk A170
 clear A170
 have HC18 := Aside0.mk H
 clear H
 go_enter Tryd.func5, Tryd.ntmps5
 go_upto_region 11 with (first | ((with_reducible refine gate_dst (N := 4) rfl ?_);refine box_event ?hg (N := 4) ?hd (cs := #[.int .i64 a0_0, .slice A0_1 l0_1.length c0_1]) (t := 24) ?hr ?_;(case hd => rfl);(case hg => rfl);(case hr => exact gS);intro gb691 hg w19 hbox hb;have n0_ := aM (below_step (by exact bB) hb);have n1_ := aM (hbox);have n2_ := aM (sW hg : w.heap.size ≤ gb691);have n3_ := aM (sW hg : w.heap.size ≤ gb691);clear HB;have HB := n0_;have BK691 := n1_;have GW691 := n2_;have GE691 := n3_;clear n0_ n1_ n2_ n3_;clear hb hbox hg;have hcz20_0 := bC0 BK691.out;have hcz20_1 := bC1 BK691.out;have hfz20_0 := blk_frozen BK691.out 0;have hfz20_1 := blk_frozen BK691.out 1) | ((with_reducible refine gate_callee (f := 7) rfl ?_);refine goesL_ (some 26) rfl rfl Tryd.func7 (by kernel_rfl) rfl #[.agg #[.int .i64 a0_0, .slice A0_1 l0_1.length c0_1], .int .i64 1048576] rfl mM ?_;(with_reducible refine (laws_szGraph.calls a0_0 _ _ l0_1 1048576 t692 _ ?side1 ?side2 A7.out).mono ?_);(case side1 => exact cP (Kd.C_below HR0_1.out HB.out));(case side2 => exact HC0_1.out);rintro e w21 ⟨rfl, hb⟩;refine ⟨_, rfl, ?_⟩;have n0_ := aM (kB hb BK691.out);have n1_ := aM (below_step (by exact bB) hb);clear BK691;clear HB;have BK691 := n0_;have HB := n1_;clear n0_ n1_;(try clear hb);have hcz22_0 := bC0 BK691.out;have hcz22_1 := bC1 BK691.out;have hfz22_0 := blk_frozen BK691.out 0;have hfz22_1 := blk_frozen BK691.out 1) | ((with_reducible refine gate_callee (f := 9) rfl ?_);refine goesL_ (some 31) rfl rfl Tryd.func9 (by kernel_rfl) rfl #[.agg #[.int .i64 a0_0, .slice A0_1 l0_1.length c0_1]] rfl mM ?_;(with_reducible refine (laws_toGraph.calls k a0_0 _ _ l0_1 t693 t694 _ ?side1 ?side2 A12.out).mono ?_);(case side1 => exact cP (Kd.C_below HR0_1.out HB.out));(case side2 => exact HC0_1.out);rintro e w23 ⟨v695, rfl, ho0, hb⟩;refine ⟨_, rfl, ?_⟩;have n0_ := aM (Kd.R_lower ho0 (below_size (by exact bB)));have n1_ := aM (kB hb BK691.out);have n2_ := aM (below_step (by exact bB) hb);clear BK691;clear HB;have HO696 := n0_;have BK691 := n1_;have HB := n2_;clear n0_ n1_ n2_;(try clear hb);(try clear ho0)) | ((with_reducible refine gate_callee (f := 17) rfl ?_);refine goesL_ (some 33) rfl rfl Tryd.func17 (by kernel_rfl) rfl #[.slice A1 l1.length c1] rfl mM ?_;(with_reducible refine (laws_toIntS.calls k _ _ l1 t697 _ ?side1 ?side2 A13.out).mono ?_);(case side1 => exact cP (Kd.C_below HR1.out HB.out));(case side2 => exact HC1.out);rintro e w24 ⟨v698, rfl, ho0, hb⟩;refine ⟨_, rfl, ?_⟩;have n0_ := aM (Kd.R_below (by exact rP HO696.out) hb);have n1_ := aM (Kd.R_lower ho0 (below_size (by exact bB)));have n2_ := aM (kB hb BK691.out);have n3_ := aM (below_step (by exact bB) hb);clear HO696;clear BK691;clear HB;have HO696 := n0_;have HO699 := n1_;have BK691 := n2_;have HB := n3_;clear n0_ n1_ n2_ n3_;(try clear hb);(try clear ho0);obtain ⟨Ao25, co25, eo25⟩ := Kd.R_slice HO696.out;subst eo25;obtain ⟨Ao26, co26, eo26⟩ := Kd.R_slice HO699.out;subst eo26) | ((with_reducible refine gate_callee (f := 20) rfl ?_);refine goesL_ (some 36) rfl rfl Tryd.func20 (by kernel_rfl) rfl #[.agg #[.int .i64 t693, .slice Ao25 t694.length co25], .slice Ao26 t697.length co26, .int .i64 a2, .bool a3] rfl mM ?_;(with_reducible refine (spec_BestAnswer.calls k t693 _ _ t694 _ _ t697 a2 a3 t700 t703 _ ?side1 ?side2 ?side3 ?side4 A14.out).mono ?_);(case side1 => exact cP (Kd.R_reads' HO696.out).2.2);(case side2 => exact (Kd.R_reads' HO696.out).2.1);(case side3 => exact cP (Kd.R_reads' HO699.out).2.2);(case side4 => exact (Kd.R_reads' HO699.out).2.1);rintro e w27 ⟨v701, rfl, ho0, hb⟩;refine ⟨_, rfl, ?_⟩;have n0_ := aM (Kd.R_below (by exact rP HO696.out) hb);have n1_ := aM (Kd.R_elder' (by exact rP HO699.out) (Kd.R_base ho0) hb);have n2_ := aM (Kd.R_lower (Kd.R_new' ho0 (Kd.R_lt (by exact rP HO699.out))) (below_size (by exact bB)));have n3_ := aM (kB hb BK691.out);have n4_ := aM (below_step (by exact bB) hb);clear HO696;clear HO699;clear BK691;clear HB;have HO696 := n0_;have HO699 := n1_;have HO702 := n2_;have BK691 := n3_;have HB := n4_;clear n0_ n1_ n2_ n3_ n4_;(try clear hb);(try clear ho0);have hcz28_0 := bC0 BK691.out;have hcz28_1 := bC1 BK691.out;have hfz28_0 := blk_frozen BK691.out 0;have hfz28_1 := blk_frozen BK691.out 1) | ((with_reducible refine gate_callee (f := 9) rfl ?_);refine goesL_ (some 40) rfl rfl Tryd.func9 (by kernel_rfl) rfl #[.agg #[.int .i64 a0_0, .slice A0_1 l0_1.length c0_1]] rfl mM ?_;(with_reducible refine (laws_toGraph.calls k a0_0 _ _ l0_1 t704 t705 _ ?side1 ?side2 A15.out).mono ?_);(case side1 => exact cP (Kd.C_below HR0_1.out HB.out));(case side2 => exact HC0_1.out);rintro e w29 ⟨v706, rfl, ho0, hb⟩;refine ⟨_, rfl, ?_⟩;have n0_ := aM (Kd.R_elder' (by exact rP HO696.out) (Kd.R_base ho0) hb);have n1_ := aM (Kd.R_below (by exact rP HO699.out) hb);have n2_ := aM (Kd.R_below (by exact rP HO702.out) hb);have n3_ := aM (Kd.R_lower (Kd.R_new' ho0 (Kd.R_lt (by exact rP HO696.out))) (below_size (by exact bB)));have n4_ := aM (kB hb BK691.out);have n5_ := aM (below_step (by exact bB) hb);clear HO696;clear HO699;clear HO702;clear BK691;clear HB;have HO696 := n0_;have HO699 := n1_;have HO702 := n2_;have HO707 := n3_;have BK691 := n4_;have HB := n5_;clear n0_ n1_ n2_ n3_ n4_ n5_;(try clear hb);(try clear ho0)) | ((with_reducible refine gate_dst (N := 12) rfl ?_);refine box_event ?hg (N := 12) ?hd (cs := #[.int .i64 0, .slice none 0 0]) (t := 29) ?hr ?_;(case hd => rfl);(case hg => rfl);(case hr => exact gS);intro gb708 hg w30 hbox hb;have n0_ := aM (Kd.R_below (by exact rP HO696.out) hb);have n1_ := aM (Kd.R_below (by exact rP HO699.out) hb);have n2_ := aM (Kd.R_below (by exact rP HO702.out) hb);have n3_ := aM (Kd.R_below (by exact rP HO707.out) hb);have n4_ := aM (kB hb BK691.out);have n5_ := aM (below_step (by exact bB) hb);have n6_ := aM (hbox);have n7_ := aM (sW hg : w.heap.size ≤ gb708);have n8_ := aM (sW hg : w.heap.size ≤ gb708);have n9_ := aM (nL hg (kP BK691.out));have n10_ := aM (nG hg (kP BK691.out));clear HO696;clear HO699;clear HO702;clear HO707;clear BK691;clear HB;have HO696 := n0_;have HO699 := n1_;have HO702 := n2_;have HO707 := n3_;have BK691 := n4_;have HB := n5_;have BK708 := n6_;have GW708 := n7_;have GE708 := n8_;have NB691_708 := n9_;have NB708_691 := n10_;clear n0_ n1_ n2_ n3_ n4_ n5_ n6_ n7_ n8_ n9_ n10_;clear hb hbox hg;have hnb31 := NB708_691.out;have hnc31 := NB691_708.out;have hcz32_0 := bC0 BK708.out;have hcz32_1 := bC1 BK708.out;have hfz32_0 := blk_frozen BK708.out 0;have hfz32_1 := blk_frozen BK708.out 1;obtain ⟨Ao33, co33, eo33⟩ := Kd.R_slice HO707.out;subst eo33) | ((with_reducible refine gate_callee (f := 17) rfl ?_);refine goesL_ (some 42) rfl rfl Tryd.func17 (by kernel_rfl) rfl #[.slice A1 l1.length c1] rfl mM ?_;(with_reducible refine (laws_toIntS.calls k _ _ l1 t709 _ ?side1 ?side2 A16.out).mono ?_);(case side1 => exact Kd.C_below HR1.out (by exact bB));(case side2 => exact HC1.out);rintro e w34 ⟨v710, rfl, ho0, hb⟩;refine ⟨_, rfl, ?_⟩;have n0_ := aM (Kd.R_below (by exact rP ((Kd.R_mono (Kd.R_far (p := ⟨gb708, 1, none⟩) (Kd.R_far (p := ⟨gb708, 0, none⟩) (Kd.R_types HO696.out BK708.out (by decide)) (fun _ hk => hk.2) (.int .i64 t704)) (fun _ hk => hk.2) (.slice Ao33 t705.length co33)) (fun _ h_ => h_.1)))) hb);have n1_ := aM (Kd.R_elder' (by exact rP ((Kd.R_mono (Kd.R_far (p := ⟨gb708, 1, none⟩) (Kd.R_far (p := ⟨gb708, 0, none⟩) (Kd.R_types HO699.out BK708.out (by decide)) (fun _ hk => hk.2) (.int .i64 t704)) (fun _ hk => hk.2) (.slice Ao33 t705.length co33)) (fun _ h_ => h_.1)))) (Kd.R_base ho0) hb);have n2_ := aM (Kd.R_elder' (by exact rP ((Kd.R_mono (Kd.R_far (p := ⟨gb708, 1, none⟩) (Kd.R_far (p := ⟨gb708, 0, none⟩) (Kd.R_types HO702.out BK708.out (by decide)) (fun _ hk => hk.2) (.int .i64 t704)) (fun _ hk => hk.2) (.slice Ao33 t705.length co33)) (fun _ h_ => h_.1)))) (Kd.R_base ho0) hb);have n3_ := aM (Kd.R_below (by exact rP ((Kd.R_mono (Kd.R_far (p := ⟨gb708, 1, none⟩) (Kd.R_far (p := ⟨gb708, 0, none⟩) (Kd.R_types HO707.out BK708.out (by decide)) (fun _ hk => hk.2) (.int .i64 t704)) (fun _ hk => hk.2) (.slice Ao33 t705.length co33)) (fun _ h_ => h_.1)))) hb);have n4_ := aM (Kd.R_lower (Kd.R_new' (Kd.R_new' ho0 (Kd.R_lt (by exact rP ((Kd.R_mono (Kd.R_far (p := ⟨gb708, 1, none⟩) (Kd.R_far (p := ⟨gb708, 0, none⟩) (Kd.R_types HO699.out BK708.out (by decide)) (fun _ hk => hk.2) (.int .i64 t704)) (fun _ hk => hk.2) (.slice Ao33 t705.length co33)) (fun _ h_ => h_.1)))))) (Kd.R_lt (by exact rP ((Kd.R_mono (Kd.R_far (p := ⟨gb708, 1, none⟩) (Kd.R_far (p := ⟨gb708, 0, none⟩) (Kd.R_types HO702.out BK708.out (by decide)) (fun _ hk => hk.2) (.int .i64 t704)) (fun _ hk => hk.2) (.slice Ao33 t705.length co33)) (fun _ h_ => h_.1)))))) (below_size (by exact bB)));have n5_ := aM (blk_below (g := gb691) (o := .cells #[.int .i64 a0_0, .slice A0_1 l0_1.length c0_1] 24 (0, 0)) (by refine kP ?_;refine blk_far ?_ NB691_708.out _;refine kP ?_;refine blk_far ?_ NB691_708.out _;exact kP BK691.out) hb);have n6_ := aM (blk_below (g := gb708) (o := .cells #[.int .i64 t704, .slice Ao33 t705.length co33] 29 (0, 0)) (by refine kP ?_;refine blk_put (cs := #[.int .i64 t704, .slice none 0 0]) ?_ 1 _ rfl;refine kP ?_;refine blk_put (cs := #[.int .i64 0, .slice none 0 0]) ?_ 0 _ rfl;exact kP BK708.out) hb);have n7_ := aM (below_step (by exact bB) hb);clear HO696;clear HO699;clear HO702;clear HO707;clear BK691;clear BK708;clear HB;have HO696 := n0_;have HO699 := n1_;have HO702 := n2_;have HO707 := n3_;have HO711 := n4_;have BK691 := n5_;have BK708 := n6_;have HB := n7_;clear n0_ n1_ n2_ n3_ n4_ n5_ n6_ n7_;(try clear hb);(try clear ho0);have hcz35_0 := bC0 BK708.out;have hcz35_1 := bC1 BK708.out;have hfz35_0 := blk_frozen BK708.out 0;have hfz35_1 := blk_frozen BK708.out 1;obtain ⟨Ao36, co36, eo36⟩ := Kd.R_slice HO711.out;subst eo36) | ((with_reducible refine gate_callee (f := 21) rfl ?_);refine goesL_ (some 48) rfl rfl Tryd.func21 (by kernel_rfl) rfl #[.agg #[.int .i64 t704, .slice Ao33 t705.length co33], .slice Ao36 t709.length co36, .int .i64 a2, .bool a3] rfl mM ?_;(with_reducible refine (impl_BestAnswer.calls k t704 _ _ t705 _ _ t709 a2 a3 t712 t715 _ ?sideT ?side1 ?side2 ?side3 ?side4 A17.out).mono ?_);(case sideT => exact tabG_below HT.out (by exact bB));(case side1 => exact cP (Kd.R_reads' HO707.out).2.2);(case side2 => exact (Kd.R_reads' HO707.out).2.1);(case side3 => exact cP (Kd.R_reads' HO711.out).2.2);(case side4 => exact (Kd.R_reads' HO711.out).2.1);rintro e w37 ⟨v713, rfl, ho0, hb⟩;refine ⟨_, rfl, ?_⟩;have n0_ := aM (Kd.R_below (by exact rP HO696.out) hb);have n1_ := aM (Kd.R_elder' (by exact rP HO699.out) (Kd.R_base ho0) hb);have n2_ := aM (Kd.R_elder' (by exact rP HO702.out) (Kd.R_base ho0) hb);have n3_ := aM (Kd.R_below (by exact rP HO707.out) hb);have n4_ := aM (Kd.R_elder' (by exact rP HO711.out) (Kd.R_base ho0) hb);have n5_ := aM (Kd.R_lower (Kd.R_new' (Kd.R_new' (Kd.R_new' ho0 (Kd.R_lt (by exact rP HO699.out))) (Kd.R_lt (by exact rP HO702.out))) (Kd.R_lt (by exact rP HO711.out))) (below_size (by exact bB)));have n6_ := aM (kB hb BK691.out);have n7_ := aM (kB hb BK708.out);have n8_ := aM (below_step (by exact bB) hb);clear HO696;clear HO699;clear HO702;clear HO707;clear HO711;clear BK691;clear BK708;clear HB;have HO696 := n0_;have HO699 := n1_;have HO702 := n2_;have HO707 := n3_;have HO711 := n4_;have HO714 := n5_;have BK691 := n6_;have BK708 := n7_;have HB := n8_;clear n0_ n1_ n2_ n3_ n4_ n5_ n6_ n7_ n8_;(try clear hb);(try clear ho0)))
 (try simp only [Act.put, List.setIfInBounds_toArray, List.set_cons_zero, List.set_cons_succ])
 go_cut [59] (fun v59 wc => ∃ (kq : Nat) (x59_17 : Bool), v59 = .bool x59_17 ∧ Aside0 (laws_FnExactBestAnswer.j0 kq l1 a2 a3 t700 t703 t709 t712 t715 x59_17 a0_0 l0_1 t704 t705 = some r) ∧ Aside0 (kq ≤ k) ∧ Aside0 (Kd.R (Kd.int .i64) 3 wc w.heap.size (fun k_ => some k_ ≠ ((.slice Ao36 t709.length co36) : Value).ownBlock ∧ some k_ ≠ (v713 : Value).ownBlock) v701 t700) ∧ Aside0 (Kd.R (Kd.int .i64) 3 wc w.heap.size (fun k_ => some k_ ≠ (v701 : Value).ownBlock ∧ some k_ ≠ (v713 : Value).ownBlock) (.slice Ao36 t709.length co36) t709) ∧ Aside0 (Kd.R (Kd.int .i64) 3 wc w.heap.size (fun k_ => some k_ ≠ (v701 : Value).ownBlock ∧ some k_ ≠ ((.slice Ao36 t709.length co36) : Value).ownBlock) v713 t712) ∧ Aside0 (Kd.R k78 78 wc w.heap.size (fun _ => True) (.slice Ao33 t705.length co33) t705) ∧ Aside0 (wc.heap[gb691]? = some (.cells #[.int .i64 a0_0, (.slice A0_1 l0_1.length c0_1)] 24 (0, 0))) ∧ Aside0 (wc.heap[gb708]? = some (.cells #[.int .i64 t704, (.slice Ao33 t705.length co33)] 29 (0, 0))) ∧ Aside0 (Below w.heap.size w wc))
 case first =>
  have H := HC18.out
  clear HC18
  replace H := Option.bind_eq_some_iff.mp H
  obtain ⟨t716, A380, H⟩ := H
  replace H : (if t716 = true then (laws_FnExactBestAnswer.j0 k l1 a2 a3 t700 t703 t709 t712 t715 (t715 != t703) a0_0 l0_1 t704 t705) else (laws_FnExactBestAnswer.j0 k l1 a2 a3 t700 t703 t709 t712 t715 true a0_0 l0_1 t704 t705)) = some r := H
  have A38 := Aside0.mk A380
  clear A380
  by_cases c39 : t716 = true
  ·subst c39
   have H1 : (laws_FnExactBestAnswer.j0 k l1 a2 a3 t700 t703 t709 t712 t715 (t715 != t703) a0_0 l0_1 t704 t705) = some r := by rw [if_pos rfl] at H;exact H
   clear H
   have H := H1
   clear H1
   have H' := Aside0.mk H
   clear H
   obtain ⟨Ao40, co40, eo40⟩ := Kd.R_slice HO714.out
   subst eo40
   obtain ⟨Ao41, co41, eo41⟩ := Kd.R_slice HO702.out
   subst eo41
   go_wp2_with (first | ((with_reducible refine gate_callee (f := 19) rfl ?_);refine goesL_ (some 53) rfl rfl Tryd.func19 (by kernel_rfl) rfl #[.slice Ao40 t712.length co40, .slice Ao41 t700.length co41] rfl mM ?_;(with_reducible refine (laws_eqIntS.calls k _ _ t712 _ _ t700 true _ ?side1 ?side2 ?side3 ?side4 A38.out).mono ?_);(case side1 => exact cP (Kd.R_reads' HO714.out).2.2);(case side2 => exact (Kd.R_reads' HO714.out).2.1);(case side3 => exact cP (Kd.R_reads' HO702.out).2.2);(case side4 => exact (Kd.R_reads' HO702.out).2.1);rintro e w' ⟨rfl, ⟨nd, rfl⟩⟩;refine ⟨_, rfl, ?_⟩))
   go_meet
   case rel => exact ⟨_, ((t715 != t703)), eF, H', ⟨by first | omega | exact Nat.le_refl _⟩, ⟨by refine rP ?_;exact Kd.R_mono HO702.out (fun _ hk => ⟨hk.1.2, hk.2⟩)⟩, ⟨by refine rP ?_;exact Kd.R_mono HO711.out (fun _ hk => ⟨hk.1.2, hk.2⟩)⟩, ⟨by refine rP ?_;exact Kd.R_mono HO714.out (fun _ hk => ⟨hk.1.2, hk.2⟩)⟩, ⟨by refine rP ?_;exact Kd.R_mono HO707.out (fun _ hk => trivial)⟩, ⟨by exact kP BK691.out⟩, ⟨by exact kP BK708.out⟩, ⟨by exact bB⟩⟩
  replace c39 := Bool.eq_false_iff.mpr c39
  subst c39
  have H1 : (laws_FnExactBestAnswer.j0 k l1 a2 a3 t700 t703 t709 t712 t715 true a0_0 l0_1 t704 t705) = some r := by rw [if_neg (show ¬ (false = true) by decide)] at H;exact H
  clear H
  have H := H1
  clear H1
  have H' := Aside0.mk H
  clear H
  obtain ⟨Ao42, co42, eo42⟩ := Kd.R_slice HO714.out
  subst eo42
  obtain ⟨Ao43, co43, eo43⟩ := Kd.R_slice HO702.out
  subst eo43
  go_wp2_with (first | ((with_reducible refine gate_callee (f := 19) rfl ?_);refine goesL_ (some 53) rfl rfl Tryd.func19 (by kernel_rfl) rfl #[.slice Ao42 t712.length co42, .slice Ao43 t700.length co43] rfl mM ?_;(with_reducible refine (laws_eqIntS.calls k _ _ t712 _ _ t700 false _ ?side1 ?side2 ?side3 ?side4 A38.out).mono ?_);(case side1 => exact cP (Kd.R_reads' HO714.out).2.2);(case side2 => exact (Kd.R_reads' HO714.out).2.1);(case side3 => exact cP (Kd.R_reads' HO702.out).2.2);(case side4 => exact (Kd.R_reads' HO702.out).2.1);rintro e w' ⟨rfl, ⟨nd, rfl⟩⟩;refine ⟨_, rfl, ?_⟩))
  go_meet
  case rel => exact ⟨_, (true), eF, H', ⟨by first | omega | exact Nat.le_refl _⟩, ⟨by refine rP ?_;exact Kd.R_mono HO702.out (fun _ hk => ⟨hk.1.2, hk.2⟩)⟩, ⟨by refine rP ?_;exact Kd.R_mono HO711.out (fun _ hk => ⟨hk.1.2, hk.2⟩)⟩, ⟨by refine rP ?_;exact Kd.R_mono HO714.out (fun _ hk => ⟨hk.1.2, hk.2⟩)⟩, ⟨by refine rP ?_;exact Kd.R_mono HO707.out (fun _ hk => trivial)⟩, ⟨by exact kP BK691.out⟩, ⟨by exact kP BK708.out⟩, ⟨by exact bB⟩⟩
 case rest =>
  clear HC18
  try clear c1
  try clear c2
  try clear p2
  try clear c3
  try clear c5
  try clear c5b0
  try clear c5b1
  try clear c7
  try clear c8
  try clear c8b0
  try clear c9
  try clear c17
  try clear c19
  try clear c20
  try clear c21
  try clear c31
  try clear c39
  try clear hcz10_0
  try clear hcz10_1
  try clear hcz20_0
  try clear hcz20_1
  try clear hcz22_0
  try clear hcz22_1
  try clear hcz28_0
  try clear hcz28_1
  try clear hcz32_0
  try clear hcz32_1
  try clear hcz35_0
  try clear hcz35_1
  try clear hfz10_0
  try clear hfz10_1
  try clear hfz20_0
  try clear hfz20_1
  try clear hfz22_0
  try clear hfz22_1
  try clear hfz28_0
  try clear hfz28_1
  try clear hfz32_0
  try clear hfz32_1
  try clear hfz35_0
  try clear hfz35_1
  obtain ⟨kq, x59_17, rfl, HA, HJ17, HO_10, HO_13, HO_14, HO_709001, BK691, BK708, HB⟩ := hcut
  cases kq with
  | zero => exact absurd HA.out (by simp [laws_FnExactBestAnswer.j0])
  | succ kj17 =>
   have H := HA.out
   clear HA
   simp only [laws_FnExactBestAnswer.j0] at H
   by_cases c44 : x59_17 = true
   ·subst c44
    have H1 : (some false) = some r := by rw [if_pos rfl] at H;exact H
    clear H
    have H := H1
    clear H1
    obtain rfl := Option.some.inj H
    go_wp2
    go_ret
    exact ⟨eW, by exact bB⟩
   replace c44 := Bool.eq_false_iff.mpr c44
   subst c44
   have H1 : ((laws_toGraph.f kj17 a0_0 l0_1).bind fun bt717 => ((laws_eqGraph.f kj17 t704 t705 bt717.1 bt717.2).bind fun t721 => (if t721 = true then ((laws_toIntS.f kj17 l1).bind fun t722 => ((laws_eqIntS.f kj17 t709 t722).bind fun t725 => (if t725 = true then ((laws_markGraph.f t704 t705 1).bind fun bt726 => ((laws_markIntS.f kj17 t709 bt726.1).bind fun bt728 => (if bt728.1 < 0 then (laws_FnExactBestAnswer.j1 kj17 l1 a2 a3 t700 t703 t712 true a0_0 l0_1) else ((laws_eqIntS.f kj17 t712 t700).bind fun t730 => (if t730 = true then (laws_FnExactBestAnswer.j1 kj17 l1 a2 a3 t700 t703 t712 (t715 != t703) a0_0 l0_1) else (laws_FnExactBestAnswer.j1 kj17 l1 a2 a3 t700 t703 t712 true a0_0 l0_1)))))) else (some false)))) else (some false)))) = some r := by rw [if_neg (show ¬ (false = true) by decide)] at H;exact H
   clear H
   have H := H1
   clear H1
   replace H := Option.bind_eq_some_iff.mp H
   obtain ⟨⟨t717, t718⟩, A450, H⟩ := H
   replace H : ((laws_eqGraph.f kj17 t704 t705 t717 t718).bind fun t721 => (if t721 = true then ((laws_toIntS.f kj17 l1).bind fun t722 => ((laws_eqIntS.f kj17 t709 t722).bind fun t725 => (if t725 = true then ((laws_markGraph.f t704 t705 1).bind fun bt726 => ((laws_markIntS.f kj17 t709 bt726.1).bind fun bt728 => (if bt728.1 < 0 then (laws_FnExactBestAnswer.j1 kj17 l1 a2 a3 t700 t703 t712 true a0_0 l0_1) else ((laws_eqIntS.f kj17 t712 t700).bind fun t730 => (if t730 = true then (laws_FnExactBestAnswer.j1 kj17 l1 a2 a3 t700 t703 t712 (t715 != t703) a0_0 l0_1) else (laws_FnExactBestAnswer.j1 kj17 l1 a2 a3 t700 t703 t712 true a0_0 l0_1)))))) else (some false)))) else (some false))) = some r := H
   have A45 := Aside0.mk A450
   clear A450
   replace H := Option.bind_eq_some_iff.mp H
   obtain ⟨t721, A460, H⟩ := H
   replace H : (if t721 = true then ((laws_toIntS.f kj17 l1).bind fun t722 => ((laws_eqIntS.f kj17 t709 t722).bind fun t725 => (if t725 = true then ((laws_markGraph.f t704 t705 1).bind fun bt726 => ((laws_markIntS.f kj17 t709 bt726.1).bind fun bt728 => (if bt728.1 < 0 then (laws_FnExactBestAnswer.j1 kj17 l1 a2 a3 t700 t703 t712 true a0_0 l0_1) else ((laws_eqIntS.f kj17 t712 t700).bind fun t730 => (if t730 = true then (laws_FnExactBestAnswer.j1 kj17 l1 a2 a3 t700 t703 t712 (t715 != t703) a0_0 l0_1) else (laws_FnExactBestAnswer.j1 kj17 l1 a2 a3 t700 t703 t712 true a0_0 l0_1)))))) else (some false)))) else (some false)) = some r := H
   have A46 := Aside0.mk A460
   clear A460
   by_cases c47 : t721 = true
   rotate_left
   ·replace c47 := Bool.eq_false_iff.mpr c47
    subst c47
    have H1 : (some false) = some r := by rw [if_neg (show ¬ (false = true) by decide)] at H;exact H
    clear H
    have H := H1
    clear H1
    obtain rfl := Option.some.inj H
    try go_wp2
    have n0_ := aM (Kd.R_drew HO_10.out)
    have n1_ := aM (Kd.R_drew HO_13.out)
    have n2_ := aM (Kd.R_drew HO_14.out)
    have n3_ := aM (Kd.R_drew HO_709001.out)
    have n4_ := aM (blk_drew BK691.out)
    have n5_ := aM (blk_drew BK708.out)
    have n6_ := aM (below_drew1 HB.out)
    clear HO_10
    clear HO_13
    clear HO_14
    clear HO_709001
    clear BK691
    clear BK708
    clear HB
    have HO_10 := n0_
    have HO_13 := n1_
    have HO_14 := n2_
    have HO_709001 := n3_
    have BK691 := n4_
    have BK708 := n5_
    have HB := n6_
    clear n0_ n1_ n2_ n3_ n4_ n5_ n6_
    refine start_ (n := 5) (S := fun w' => w'.cell? ⟨gb708, 0, none⟩ = some (.int .i64 t704) ∧ w'.cell? ⟨gb708, 1, none⟩ = some (.slice Ao33 t705.length co33) ∧ w'.cell? ⟨gb691, 0, none⟩ = some (.int .i64 a0_0) ∧ w'.cell? ⟨gb691, 1, none⟩ = some (.slice A0_1 l0_1.length c0_1)) (ds := []) (pT 0 5) (by kernel_rfl) rfl rfl ⟨(blk_cell BK708.out 0).trans rfl, (blk_cell BK708.out 1).trans rfl, (blk_cell BK691.out 0).trans rfl, (blk_cell BK691.out 1).trans rfl⟩ (fun hHeld => ?_)
    generalize wc.drew = w109 at HO_10 HO_13 HO_14 HO_709001 BK691 BK708 HB hHeld ⊢
    refine take_ (i := 0) (N := some 60) (v := ?_) (a' := ?_) (pT 1 4) rfl rfl (by kernel_rfl) (fun _ _ _ h => h) (Or.inl ⟨by rfl, ?_⟩) hHeld ?_ ?_
    rotate_left
    ·rintro w' ⟨s0, s1, s2, s3⟩
     go_simp
     with_reducible rfl
    rotate_left
    ·exact aP
    refine take_ (i := 1) (N := some 61) (v := ?_) (a' := ?_) (pT 2 3) rfl rfl (by kernel_rfl) (fun _ _ _ h => h) (Or.inl ⟨by rfl, ?_⟩) hHeld ?_ ?_
    rotate_left
    ·rintro w' ⟨s0, s1, s2, s3⟩
     go_simp
     with_reducible rfl
    rotate_left
    ·exact aP
    refine one_ (i := 2) (N := some 62) (pT 3 2) rfl rfl (by kernel_rfl) (by decide) (fun K hK => ?_)
    refine goes_ Tryd.func9 (by kernel_rfl) rfl #[.agg #[.int .i64 a0_0, .slice A0_1 l0_1.length c0_1]] (by rfl) rfl rfl mM ?_
    with_reducible refine (laws_toGraph.calls kj17 a0_0 _ _ l0_1 t717 t718 _ ?side1 ?side2 A45.out).mono ?_
    (case side1 => exact cP (Kd.C_below HR0_1.out HB.out))
    (case side2 => exact HC0_1.out)
    rintro e w110 ⟨v719, rfl, ho0, hb⟩
    refine ⟨_, rfl, ?_⟩
    have n0_ := aM (Kd.R_below (by exact rP HO_10.out) hb)
    have n1_ := aM (Kd.R_below (by exact rP HO_13.out) hb)
    have n2_ := aM (Kd.R_below (by exact rP HO_14.out) hb)
    have n3_ := aM (Kd.R_elder' (by exact rP HO_709001.out) (Kd.R_base ho0) hb)
    have n4_ := aM (Kd.R_lower (Kd.R_new' ho0 (Kd.R_lt (by exact rP HO_709001.out))) (below_size (by exact bB)))
    have n5_ := aM (kB hb BK691.out)
    have n6_ := aM (kB hb BK708.out)
    have n7_ := aM (below_step (by exact bB) hb)
    clear HO_10
    clear HO_13
    clear HO_14
    clear HO_709001
    clear BK691
    clear BK708
    clear HB
    have HO_10 := n0_
    have HO_13 := n1_
    have HO_14 := n2_
    have HO_709001 := n3_
    have HO720 := n4_
    have BK691 := n5_
    have BK708 := n6_
    have HB := n7_
    clear n0_ n1_ n2_ n3_ n4_ n5_ n6_ n7_
    (try clear hb)
    (try clear hb2)
    (try clear hk)
    (try clear hi)
    (try clear ho0)
    obtain ⟨Ao111, co111, eo111⟩ := Kd.R_slice HO720.out
    (first | subst eo111 | (injection eo111 with f1_ f2_ f3_;have f4_ := f1_.symm;have f5_ := f3_.symm;clear f1_ f2_ f3_;subst f4_;subst f5_))
    refine hK.out _ _ ⟨(blk_cell BK708.out 0).trans rfl, (blk_cell BK708.out 1).trans rfl, (blk_cell BK691.out 0).trans rfl, (blk_cell BK691.out 1).trans rfl⟩ (fun hHeld => ?_)
    clear hK K
    refine norm_ (a' := ?_) ?_ ?_
    rotate_left
    ·show Act.put _ (some 62) _ = _
     simp only [Act.put, List.setIfInBounds_toArray, List.set_cons_zero, List.set_cons_succ, i64_w, i32_w]
     rfl
    refine one_ (i := 3) (N := some 63) (pT 4 1) rfl rfl (by kernel_rfl) (by decide) (fun K hK => ?_)
    refine goes_ Tryd.func12 (by kernel_rfl) rfl #[.agg #[.int .i64 t704, .slice Ao33 t705.length co33], .agg #[.int .i64 t717, .slice Ao111 t718.length co111]] (by rfl) rfl rfl mM ?_
    with_reducible refine (laws_eqGraph.calls kj17 t704 _ _ t705 t717 _ _ t718 false _ ?side1 ?side2 ?side3 ?side4 A46.out).mono ?_
    (case side1 => exact cP (Kd.R_reads' HO_709001.out).2.2)
    (case side2 => exact (Kd.R_reads' HO_709001.out).2.1)
    (case side3 => exact cP (Kd.R_reads' HO720.out).2.2)
    (case side4 => exact (Kd.R_reads' HO720.out).2.1)
    rintro e w112 ⟨rfl, hb⟩
    refine ⟨_, rfl, ?_⟩
    have n0_ := aM (Kd.R_below (by exact rP HO_10.out) hb)
    have n1_ := aM (Kd.R_below (by exact rP HO_13.out) hb)
    have n2_ := aM (Kd.R_below (by exact rP HO_14.out) hb)
    have n3_ := aM (Kd.R_below (by exact rP HO_709001.out) hb)
    have n4_ := aM (Kd.R_below (by exact rP HO720.out) hb)
    have n5_ := aM (kB hb BK691.out)
    have n6_ := aM (kB hb BK708.out)
    have n7_ := aM (below_step (by exact bB) hb)
    clear HO_10
    clear HO_13
    clear HO_14
    clear HO_709001
    clear HO720
    clear BK691
    clear BK708
    clear HB
    have HO_10 := n0_
    have HO_13 := n1_
    have HO_14 := n2_
    have HO_709001 := n3_
    have HO720 := n4_
    have BK691 := n5_
    have BK708 := n6_
    have HB := n7_
    clear n0_ n1_ n2_ n3_ n4_ n5_ n6_ n7_
    (try clear hb)
    (try clear hb2)
    (try clear hk)
    (try clear hi)
    refine hK.out _ _ ⟨(blk_cell BK708.out 0).trans rfl, (blk_cell BK708.out 1).trans rfl, (blk_cell BK691.out 0).trans rfl, (blk_cell BK691.out 1).trans rfl⟩ (fun hHeld => ?_)
    clear hK K
    refine norm_ (a' := ?_) ?_ ?_
    rotate_left
    ·show Act.put _ (some 63) _ = _
     simp only [Act.put, List.setIfInBounds_toArray, List.set_cons_zero, List.set_cons_succ, i64_w, i32_w]
     rfl
    refine pure_ (i := 4) (N := some 64) (v := ?_) (a' := ?_) (pT 5 0) rfl rfl (by kernel_rfl) (fun _ _ _ h => h) (Or.inl ⟨by rfl, ?_⟩) ?_ ?_
    rotate_left
    ·intro w'
     go_simp
     with_reducible rfl
    rotate_left
    ·exact aP
    refine done_ (by kernel_rfl) ?_
    try go_wp2
    go_ret
    exact ⟨eW, by exact bB⟩
   subst c47
   have H1 : ((laws_toIntS.f kj17 l1).bind fun t722 => ((laws_eqIntS.f kj17 t709 t722).bind fun t725 => (if t725 = true then ((laws_markGraph.f t704 t705 1).bind fun bt726 => ((laws_markIntS.f kj17 t709 bt726.1).bind fun bt728 => (if bt728.1 < 0 then (laws_FnExactBestAnswer.j1 kj17 l1 a2 a3 t700 t703 t712 true a0_0 l0_1) else ((laws_eqIntS.f kj17 t712 t700).bind fun t730 => (if t730 = true then (laws_FnExactBestAnswer.j1 kj17 l1 a2 a3 t700 t703 t712 (t715 != t703) a0_0 l0_1) else (laws_FnExactBestAnswer.j1 kj17 l1 a2 a3 t700 t703 t712 true a0_0 l0_1)))))) else (some false)))) = some r := by rw [if_pos rfl] at H;exact H
   clear H
   have H := H1
   clear H1
   replace H := Option.bind_eq_some_iff.mp H
   obtain ⟨t722, A480, H⟩ := H
   replace H : ((laws_eqIntS.f kj17 t709 t722).bind fun t725 => (if t725 = true then ((laws_markGraph.f t704 t705 1).bind fun bt726 => ((laws_markIntS.f kj17 t709 bt726.1).bind fun bt728 => (if bt728.1 < 0 then (laws_FnExactBestAnswer.j1 kj17 l1 a2 a3 t700 t703 t712 true a0_0 l0_1) else ((laws_eqIntS.f kj17 t712 t700).bind fun t730 => (if t730 = true then (laws_FnExactBestAnswer.j1 kj17 l1 a2 a3 t700 t703 t712 (t715 != t703) a0_0 l0_1) else (laws_FnExactBestAnswer.j1 kj17 l1 a2 a3 t700 t703 t712 true a0_0 l0_1)))))) else (some false))) = some r := H
   have A48 := Aside0.mk A480
   clear A480
   replace H := Option.bind_eq_some_iff.mp H
   obtain ⟨t725, A490, H⟩ := H
   replace H : (if t725 = true then ((laws_markGraph.f t704 t705 1).bind fun bt726 => ((laws_markIntS.f kj17 t709 bt726.1).bind fun bt728 => (if bt728.1 < 0 then (laws_FnExactBestAnswer.j1 kj17 l1 a2 a3 t700 t703 t712 true a0_0 l0_1) else ((laws_eqIntS.f kj17 t712 t700).bind fun t730 => (if t730 = true then (laws_FnExactBestAnswer.j1 kj17 l1 a2 a3 t700 t703 t712 (t715 != t703) a0_0 l0_1) else (laws_FnExactBestAnswer.j1 kj17 l1 a2 a3 t700 t703 t712 true a0_0 l0_1)))))) else (some false)) = some r := H
   have A49 := Aside0.mk A490
   clear A490
   by_cases c50 : t725 = true
   rotate_left
   ·replace c50 := Bool.eq_false_iff.mpr c50
    subst c50
    have H1 : (some false) = some r := by rw [if_neg (show ¬ (false = true) by decide)] at H;exact H
    clear H
    have H := H1
    clear H1
    obtain rfl := Option.some.inj H
    try go_wp2
    have n0_ := aM (Kd.R_drew HO_10.out)
    have n1_ := aM (Kd.R_drew HO_13.out)
    have n2_ := aM (Kd.R_drew HO_14.out)
    have n3_ := aM (Kd.R_drew HO_709001.out)
    have n4_ := aM (blk_drew BK691.out)
    have n5_ := aM (blk_drew BK708.out)
    have n6_ := aM (below_drew1 HB.out)
    clear HO_10
    clear HO_13
    clear HO_14
    clear HO_709001
    clear BK691
    clear BK708
    clear HB
    have HO_10 := n0_
    have HO_13 := n1_
    have HO_14 := n2_
    have HO_709001 := n3_
    have BK691 := n4_
    have BK708 := n5_
    have HB := n6_
    clear n0_ n1_ n2_ n3_ n4_ n5_ n6_
    refine start_ (n := 5) (S := fun w' => w'.cell? ⟨gb708, 0, none⟩ = some (.int .i64 t704) ∧ w'.cell? ⟨gb708, 1, none⟩ = some (.slice Ao33 t705.length co33) ∧ w'.cell? ⟨gb691, 0, none⟩ = some (.int .i64 a0_0) ∧ w'.cell? ⟨gb691, 1, none⟩ = some (.slice A0_1 l0_1.length c0_1)) (ds := []) (pT 0 5) (by kernel_rfl) rfl rfl ⟨(blk_cell BK708.out 0).trans rfl, (blk_cell BK708.out 1).trans rfl, (blk_cell BK691.out 0).trans rfl, (blk_cell BK691.out 1).trans rfl⟩ (fun hHeld => ?_)
    generalize wc.drew = w103 at HO_10 HO_13 HO_14 HO_709001 BK691 BK708 HB hHeld ⊢
    refine take_ (i := 0) (N := some 60) (v := ?_) (a' := ?_) (pT 1 4) rfl rfl (by kernel_rfl) (fun _ _ _ h => h) (Or.inl ⟨by rfl, ?_⟩) hHeld ?_ ?_
    rotate_left
    ·rintro w' ⟨s0, s1, s2, s3⟩
     go_simp
     with_reducible rfl
    rotate_left
    ·exact aP
    refine take_ (i := 1) (N := some 61) (v := ?_) (a' := ?_) (pT 2 3) rfl rfl (by kernel_rfl) (fun _ _ _ h => h) (Or.inl ⟨by rfl, ?_⟩) hHeld ?_ ?_
    rotate_left
    ·rintro w' ⟨s0, s1, s2, s3⟩
     go_simp
     with_reducible rfl
    rotate_left
    ·exact aP
    refine one_ (i := 2) (N := some 62) (pT 3 2) rfl rfl (by kernel_rfl) (by decide) (fun K hK => ?_)
    refine goes_ Tryd.func9 (by kernel_rfl) rfl #[.agg #[.int .i64 a0_0, .slice A0_1 l0_1.length c0_1]] (by rfl) rfl rfl mM ?_
    with_reducible refine (laws_toGraph.calls kj17 a0_0 _ _ l0_1 t717 t718 _ ?side1 ?side2 A45.out).mono ?_
    (case side1 => exact cP (Kd.C_below HR0_1.out HB.out))
    (case side2 => exact HC0_1.out)
    rintro e w104 ⟨v719, rfl, ho0, hb⟩
    refine ⟨_, rfl, ?_⟩
    have n0_ := aM (Kd.R_below (by exact rP HO_10.out) hb)
    have n1_ := aM (Kd.R_below (by exact rP HO_13.out) hb)
    have n2_ := aM (Kd.R_below (by exact rP HO_14.out) hb)
    have n3_ := aM (Kd.R_elder' (by exact rP HO_709001.out) (Kd.R_base ho0) hb)
    have n4_ := aM (Kd.R_lower (Kd.R_new' ho0 (Kd.R_lt (by exact rP HO_709001.out))) (below_size (by exact bB)))
    have n5_ := aM (kB hb BK691.out)
    have n6_ := aM (kB hb BK708.out)
    have n7_ := aM (below_step (by exact bB) hb)
    clear HO_10
    clear HO_13
    clear HO_14
    clear HO_709001
    clear BK691
    clear BK708
    clear HB
    have HO_10 := n0_
    have HO_13 := n1_
    have HO_14 := n2_
    have HO_709001 := n3_
    have HO720 := n4_
    have BK691 := n5_
    have BK708 := n6_
    have HB := n7_
    clear n0_ n1_ n2_ n3_ n4_ n5_ n6_ n7_
    (try clear hb)
    (try clear hb2)
    (try clear hk)
    (try clear hi)
    (try clear ho0)
    obtain ⟨Ao105, co105, eo105⟩ := Kd.R_slice HO720.out
    (first | subst eo105 | (injection eo105 with f1_ f2_ f3_;have f4_ := f1_.symm;have f5_ := f3_.symm;clear f1_ f2_ f3_;subst f4_;subst f5_))
    refine hK.out _ _ ⟨(blk_cell BK708.out 0).trans rfl, (blk_cell BK708.out 1).trans rfl, (blk_cell BK691.out 0).trans rfl, (blk_cell BK691.out 1).trans rfl⟩ (fun hHeld => ?_)
    clear hK K
    refine norm_ (a' := ?_) ?_ ?_
    rotate_left
    ·show Act.put _ (some 62) _ = _
     simp only [Act.put, List.setIfInBounds_toArray, List.set_cons_zero, List.set_cons_succ, i64_w, i32_w]
     rfl
    refine one_ (i := 3) (N := some 63) (pT 4 1) rfl rfl (by kernel_rfl) (by decide) (fun K hK => ?_)
    refine goes_ Tryd.func12 (by kernel_rfl) rfl #[.agg #[.int .i64 t704, .slice Ao33 t705.length co33], .agg #[.int .i64 t717, .slice Ao105 t718.length co105]] (by rfl) rfl rfl mM ?_
    with_reducible refine (laws_eqGraph.calls kj17 t704 _ _ t705 t717 _ _ t718 true _ ?side1 ?side2 ?side3 ?side4 A46.out).mono ?_
    (case side1 => exact cP (Kd.R_reads' HO_709001.out).2.2)
    (case side2 => exact (Kd.R_reads' HO_709001.out).2.1)
    (case side3 => exact cP (Kd.R_reads' HO720.out).2.2)
    (case side4 => exact (Kd.R_reads' HO720.out).2.1)
    rintro e w106 ⟨rfl, hb⟩
    refine ⟨_, rfl, ?_⟩
    have n0_ := aM (Kd.R_below (by exact rP HO_10.out) hb)
    have n1_ := aM (Kd.R_below (by exact rP HO_13.out) hb)
    have n2_ := aM (Kd.R_below (by exact rP HO_14.out) hb)
    have n3_ := aM (Kd.R_below (by exact rP HO_709001.out) hb)
    have n4_ := aM (Kd.R_below (by exact rP HO720.out) hb)
    have n5_ := aM (kB hb BK691.out)
    have n6_ := aM (kB hb BK708.out)
    have n7_ := aM (below_step (by exact bB) hb)
    clear HO_10
    clear HO_13
    clear HO_14
    clear HO_709001
    clear HO720
    clear BK691
    clear BK708
    clear HB
    have HO_10 := n0_
    have HO_13 := n1_
    have HO_14 := n2_
    have HO_709001 := n3_
    have HO720 := n4_
    have BK691 := n5_
    have BK708 := n6_
    have HB := n7_
    clear n0_ n1_ n2_ n3_ n4_ n5_ n6_ n7_
    (try clear hb)
    (try clear hb2)
    (try clear hk)
    (try clear hi)
    refine hK.out _ _ ⟨(blk_cell BK708.out 0).trans rfl, (blk_cell BK708.out 1).trans rfl, (blk_cell BK691.out 0).trans rfl, (blk_cell BK691.out 1).trans rfl⟩ (fun hHeld => ?_)
    clear hK K
    refine norm_ (a' := ?_) ?_ ?_
    rotate_left
    ·show Act.put _ (some 63) _ = _
     simp only [Act.put, List.setIfInBounds_toArray, List.set_cons_zero, List.set_cons_succ, i64_w, i32_w]
     rfl
    refine pure_ (i := 4) (N := some 64) (v := ?_) (a' := ?_) (pT 5 0) rfl rfl (by kernel_rfl) (fun _ _ _ h => h) (Or.inl ⟨by rfl, ?_⟩) ?_ ?_
    rotate_left
    ·intro w'
     go_simp
     with_reducible rfl
    rotate_left
    ·exact aP
    refine done_ (by kernel_rfl) ?_
    try go_wp2_with (first | ((with_reducible refine gate_callee (f := 17) rfl ?_);refine goesL_ (some 67) rfl rfl Tryd.func17 (by kernel_rfl) rfl #[.slice A1 l1.length c1] rfl mM ?_;(with_reducible refine (laws_toIntS.calls kj17 _ _ l1 t722 _ ?side1 ?side2 A48.out).mono ?_);(case side1 => exact cP (Kd.C_below HR1.out HB.out));(case side2 => exact HC1.out);rintro e w107 ⟨v723, rfl, ho0, hb⟩;refine ⟨_, rfl, ?_⟩;have n0_ := aM (Kd.R_elder' (by exact rP HO_10.out) (Kd.R_base ho0) hb);have n1_ := aM (Kd.R_elder' (by exact rP HO_13.out) (Kd.R_base ho0) hb);have n2_ := aM (Kd.R_elder' (by exact rP HO_14.out) (Kd.R_base ho0) hb);have n3_ := aM (Kd.R_below (by exact rP HO_709001.out) hb);have n4_ := aM (Kd.R_below (by exact rP HO720.out) hb);have n5_ := aM (Kd.R_lower (Kd.R_new' (Kd.R_new' (Kd.R_new' ho0 (Kd.R_lt (by exact rP HO_10.out))) (Kd.R_lt (by exact rP HO_13.out))) (Kd.R_lt (by exact rP HO_14.out))) (below_size (by exact bB)));have n6_ := aM (kB hb BK691.out);have n7_ := aM (kB hb BK708.out);have n8_ := aM (below_step (by exact bB) hb);clear HO_10;clear HO_13;clear HO_14;clear HO_709001;clear HO720;clear BK691;clear BK708;clear HB;have HO_10 := n0_;have HO_13 := n1_;have HO_14 := n2_;have HO_709001 := n3_;have HO720 := n4_;have HO724 := n5_;have BK691 := n6_;have BK708 := n7_;have HB := n8_;clear n0_ n1_ n2_ n3_ n4_ n5_ n6_ n7_ n8_;(try clear hb);(try clear ho0);obtain ⟨Ao108, co108, eo108⟩ := Kd.R_slice HO724.out;subst eo108) | ((with_reducible refine gate_callee (f := 19) rfl ?_);refine goesL_ (some 68) rfl rfl Tryd.func19 (by kernel_rfl) rfl #[.slice Ao36 t709.length co36, .slice Ao108 t722.length co108] rfl mM ?_;(with_reducible refine (laws_eqIntS.calls kj17 _ _ t709 _ _ t722 false _ ?side1 ?side2 ?side3 ?side4 A49.out).mono ?_);(case side1 => exact cP (Kd.R_reads' HO_13.out).2.2);(case side2 => exact (Kd.R_reads' HO_13.out).2.1);(case side3 => exact cP (Kd.R_reads' HO724.out).2.2);(case side4 => exact (Kd.R_reads' HO724.out).2.1);rintro e w' ⟨rfl, ⟨nd, rfl⟩⟩;refine ⟨_, rfl, ?_⟩))
    go_ret
    exact ⟨eW, by exact bB⟩
   subst c50
   have H1 : ((laws_markGraph.f t704 t705 1).bind fun bt726 => ((laws_markIntS.f kj17 t709 bt726.1).bind fun bt728 => (if bt728.1 < 0 then (laws_FnExactBestAnswer.j1 kj17 l1 a2 a3 t700 t703 t712 true a0_0 l0_1) else ((laws_eqIntS.f kj17 t712 t700).bind fun t730 => (if t730 = true then (laws_FnExactBestAnswer.j1 kj17 l1 a2 a3 t700 t703 t712 (t715 != t703) a0_0 l0_1) else (laws_FnExactBestAnswer.j1 kj17 l1 a2 a3 t700 t703 t712 true a0_0 l0_1)))))) = some r := by rw [if_pos rfl] at H;exact H
   clear H
   have H := H1
   clear H1
   replace H := Option.bind_eq_some_iff.mp H
   obtain ⟨⟨t726, t727⟩, A510, H⟩ := H
   replace H : ((laws_markIntS.f kj17 t709 t726).bind fun bt728 => (if bt728.1 < 0 then (laws_FnExactBestAnswer.j1 kj17 l1 a2 a3 t700 t703 t712 true a0_0 l0_1) else ((laws_eqIntS.f kj17 t712 t700).bind fun t730 => (if t730 = true then (laws_FnExactBestAnswer.j1 kj17 l1 a2 a3 t700 t703 t712 (t715 != t703) a0_0 l0_1) else (laws_FnExactBestAnswer.j1 kj17 l1 a2 a3 t700 t703 t712 true a0_0 l0_1))))) = some r := H
   have A51 := Aside0.mk A510
   clear A510
   replace H := Option.bind_eq_some_iff.mp H
   obtain ⟨⟨t728, t729⟩, A520, H⟩ := H
   replace H : (if t728 < 0 then (laws_FnExactBestAnswer.j1 kj17 l1 a2 a3 t700 t703 t712 true a0_0 l0_1) else ((laws_eqIntS.f kj17 t712 t700).bind fun t730 => (if t730 = true then (laws_FnExactBestAnswer.j1 kj17 l1 a2 a3 t700 t703 t712 (t715 != t703) a0_0 l0_1) else (laws_FnExactBestAnswer.j1 kj17 l1 a2 a3 t700 t703 t712 true a0_0 l0_1)))) = some r := H
   have A52 := Aside0.mk A520
   clear A520
   have HC53 := Aside0.mk H
   clear H
   try go_wp2
   have n0_ := aM (Kd.R_drew HO_10.out)
   have n1_ := aM (Kd.R_drew HO_13.out)
   have n2_ := aM (Kd.R_drew HO_14.out)
   have n3_ := aM (Kd.R_drew HO_709001.out)
   have n4_ := aM (blk_drew BK691.out)
   have n5_ := aM (blk_drew BK708.out)
   have n6_ := aM (below_drew1 HB.out)
   clear HO_10
   clear HO_13
   clear HO_14
   clear HO_709001
   clear BK691
   clear BK708
   clear HB
   have HO_10 := n0_
   have HO_13 := n1_
   have HO_14 := n2_
   have HO_709001 := n3_
   have BK691 := n4_
   have BK708 := n5_
   have HB := n6_
   clear n0_ n1_ n2_ n3_ n4_ n5_ n6_
   refine start_ (n := 5) (S := fun w' => w'.cell? ⟨gb708, 0, none⟩ = some (.int .i64 t704) ∧ w'.cell? ⟨gb708, 1, none⟩ = some (.slice Ao33 t705.length co33) ∧ w'.cell? ⟨gb691, 0, none⟩ = some (.int .i64 a0_0) ∧ w'.cell? ⟨gb691, 1, none⟩ = some (.slice A0_1 l0_1.length c0_1)) (ds := []) (pT 0 5) (by kernel_rfl) rfl rfl ⟨(blk_cell BK708.out 0).trans rfl, (blk_cell BK708.out 1).trans rfl, (blk_cell BK691.out 0).trans rfl, (blk_cell BK691.out 1).trans rfl⟩ (fun hHeld => ?_)
   generalize wc.drew = w54 at HO_10 HO_13 HO_14 HO_709001 BK691 BK708 HB hHeld ⊢
   refine take_ (i := 0) (N := some 60) (v := ?_) (a' := ?_) (pT 1 4) rfl rfl (by kernel_rfl) (fun _ _ _ h => h) (Or.inl ⟨by rfl, ?_⟩) hHeld ?_ ?_
   rotate_left
   ·rintro w' ⟨s0, s1, s2, s3⟩
    go_simp
    with_reducible rfl
   rotate_left
   ·exact aP
   refine take_ (i := 1) (N := some 61) (v := ?_) (a' := ?_) (pT 2 3) rfl rfl (by kernel_rfl) (fun _ _ _ h => h) (Or.inl ⟨by rfl, ?_⟩) hHeld ?_ ?_
   rotate_left
   ·rintro w' ⟨s0, s1, s2, s3⟩
    go_simp
    with_reducible rfl
   rotate_left
   ·exact aP
   refine one_ (i := 2) (N := some 62) (pT 3 2) rfl rfl (by kernel_rfl) (by decide) (fun K hK => ?_)
   refine goes_ Tryd.func9 (by kernel_rfl) rfl #[.agg #[.int .i64 a0_0, .slice A0_1 l0_1.length c0_1]] (by rfl) rfl rfl mM ?_
   with_reducible refine (laws_toGraph.calls kj17 a0_0 _ _ l0_1 t717 t718 _ ?side1 ?side2 A45.out).mono ?_
   (case side1 => exact cP (Kd.C_below HR0_1.out HB.out))
   (case side2 => exact HC0_1.out)
   rintro e w55 ⟨v719, rfl, ho0, hb⟩
   refine ⟨_, rfl, ?_⟩
   have n0_ := aM (Kd.R_below (by exact rP HO_10.out) hb)
   have n1_ := aM (Kd.R_below (by exact rP HO_13.out) hb)
   have n2_ := aM (Kd.R_below (by exact rP HO_14.out) hb)
   have n3_ := aM (Kd.R_elder' (by exact rP HO_709001.out) (Kd.R_base ho0) hb)
   have n4_ := aM (Kd.R_lower (Kd.R_new' ho0 (Kd.R_lt (by exact rP HO_709001.out))) (below_size (by exact bB)))
   have n5_ := aM (kB hb BK691.out)
   have n6_ := aM (kB hb BK708.out)
   have n7_ := aM (below_step (by exact bB) hb)
   clear HO_10
   clear HO_13
   clear HO_14
   clear HO_709001
   clear BK691
   clear BK708
   clear HB
   have HO_10 := n0_
   have HO_13 := n1_
   have HO_14 := n2_
   have HO_709001 := n3_
   have HO720 := n4_
   have BK691 := n5_
   have BK708 := n6_
   have HB := n7_
   clear n0_ n1_ n2_ n3_ n4_ n5_ n6_ n7_
   (try clear hb)
   (try clear hb2)
   (try clear hk)
   (try clear hi)
   (try clear ho0)
   obtain ⟨Ao56, co56, eo56⟩ := Kd.R_slice HO720.out
   (first | subst eo56 | (injection eo56 with f1_ f2_ f3_;have f4_ := f1_.symm;have f5_ := f3_.symm;clear f1_ f2_ f3_;subst f4_;subst f5_))
   refine hK.out _ _ ⟨(blk_cell BK708.out 0).trans rfl, (blk_cell BK708.out 1).trans rfl, (blk_cell BK691.out 0).trans rfl, (blk_cell BK691.out 1).trans rfl⟩ (fun hHeld => ?_)
   clear hK K
   refine norm_ (a' := ?_) ?_ ?_
   rotate_left
   ·show Act.put _ (some 62) _ = _
    simp only [Act.put, List.setIfInBounds_toArray, List.set_cons_zero, List.set_cons_succ, i64_w, i32_w]
    rfl
   refine one_ (i := 3) (N := some 63) (pT 4 1) rfl rfl (by kernel_rfl) (by decide) (fun K hK => ?_)
   refine goes_ Tryd.func12 (by kernel_rfl) rfl #[.agg #[.int .i64 t704, .slice Ao33 t705.length co33], .agg #[.int .i64 t717, .slice Ao56 t718.length co56]] (by rfl) rfl rfl mM ?_
   with_reducible refine (laws_eqGraph.calls kj17 t704 _ _ t705 t717 _ _ t718 true _ ?side1 ?side2 ?side3 ?side4 A46.out).mono ?_
   (case side1 => exact cP (Kd.R_reads' HO_709001.out).2.2)
   (case side2 => exact (Kd.R_reads' HO_709001.out).2.1)
   (case side3 => exact cP (Kd.R_reads' HO720.out).2.2)
   (case side4 => exact (Kd.R_reads' HO720.out).2.1)
   rintro e w57 ⟨rfl, hb⟩
   refine ⟨_, rfl, ?_⟩
   have n0_ := aM (Kd.R_below (by exact rP HO_10.out) hb)
   have n1_ := aM (Kd.R_below (by exact rP HO_13.out) hb)
   have n2_ := aM (Kd.R_below (by exact rP HO_14.out) hb)
   have n3_ := aM (Kd.R_below (by exact rP HO_709001.out) hb)
   have n4_ := aM (Kd.R_below (by exact rP HO720.out) hb)
   have n5_ := aM (kB hb BK691.out)
   have n6_ := aM (kB hb BK708.out)
   have n7_ := aM (below_step (by exact bB) hb)
   clear HO_10
   clear HO_13
   clear HO_14
   clear HO_709001
   clear HO720
   clear BK691
   clear BK708
   clear HB
   have HO_10 := n0_
   have HO_13 := n1_
   have HO_14 := n2_
   have HO_709001 := n3_
   have HO720 := n4_
   have BK691 := n5_
   have BK708 := n6_
   have HB := n7_
   clear n0_ n1_ n2_ n3_ n4_ n5_ n6_ n7_
   (try clear hb)
   (try clear hb2)
   (try clear hk)
   (try clear hi)
   refine hK.out _ _ ⟨(blk_cell BK708.out 0).trans rfl, (blk_cell BK708.out 1).trans rfl, (blk_cell BK691.out 0).trans rfl, (blk_cell BK691.out 1).trans rfl⟩ (fun hHeld => ?_)
   clear hK K
   refine norm_ (a' := ?_) ?_ ?_
   rotate_left
   ·show Act.put _ (some 63) _ = _
    simp only [Act.put, List.setIfInBounds_toArray, List.set_cons_zero, List.set_cons_succ, i64_w, i32_w]
    rfl
   refine pure_ (i := 4) (N := some 64) (v := ?_) (a' := ?_) (pT 5 0) rfl rfl (by kernel_rfl) (fun _ _ _ h => h) (Or.inl ⟨by rfl, ?_⟩) ?_ ?_
   rotate_left
   ·intro w'
    go_simp
    with_reducible rfl
   rotate_left
   ·exact aP
   refine done_ (by kernel_rfl) ?_
   go_upto_region 20 with (first | ((with_reducible refine gate_callee (f := 17) rfl ?_);refine goesL_ (some 67) rfl rfl Tryd.func17 (by kernel_rfl) rfl #[.slice A1 l1.length c1] rfl mM ?_;(with_reducible refine (laws_toIntS.calls kj17 _ _ l1 t722 _ ?side1 ?side2 A48.out).mono ?_);(case side1 => exact cP (Kd.C_below HR1.out HB.out));(case side2 => exact HC1.out);rintro e w58 ⟨v723, rfl, ho0, hb⟩;refine ⟨_, rfl, ?_⟩;have n0_ := aM (Kd.R_elder' (by exact rP HO_10.out) (Kd.R_base ho0) hb);have n1_ := aM (Kd.R_elder' (by exact rP HO_13.out) (Kd.R_base ho0) hb);have n2_ := aM (Kd.R_elder' (by exact rP HO_14.out) (Kd.R_base ho0) hb);have n3_ := aM (Kd.R_below (by exact rP HO_709001.out) hb);have n4_ := aM (Kd.R_below (by exact rP HO720.out) hb);have n5_ := aM (Kd.R_lower (Kd.R_new' (Kd.R_new' (Kd.R_new' ho0 (Kd.R_lt (by exact rP HO_10.out))) (Kd.R_lt (by exact rP HO_13.out))) (Kd.R_lt (by exact rP HO_14.out))) (below_size (by exact bB)));have n6_ := aM (kB hb BK691.out);have n7_ := aM (kB hb BK708.out);have n8_ := aM (below_step (by exact bB) hb);clear HO_10;clear HO_13;clear HO_14;clear HO_709001;clear HO720;clear BK691;clear BK708;clear HB;have HO_10 := n0_;have HO_13 := n1_;have HO_14 := n2_;have HO_709001 := n3_;have HO720 := n4_;have HO724 := n5_;have BK691 := n6_;have BK708 := n7_;have HB := n8_;clear n0_ n1_ n2_ n3_ n4_ n5_ n6_ n7_ n8_;(try clear hb);(try clear ho0);obtain ⟨Ao59, co59, eo59⟩ := Kd.R_slice HO724.out;subst eo59) | ((with_reducible refine gate_callee (f := 19) rfl ?_);refine goesL_ (some 68) rfl rfl Tryd.func19 (by kernel_rfl) rfl #[.slice Ao36 t709.length co36, .slice Ao59 t722.length co59] rfl mM ?_;(with_reducible refine (laws_eqIntS.calls kj17 _ _ t709 _ _ t722 true _ ?side1 ?side2 ?side3 ?side4 A49.out).mono ?_);(case side1 => exact cP (Kd.R_reads' HO_13.out).2.2);(case side2 => exact (Kd.R_reads' HO_13.out).2.1);(case side3 => exact cP (Kd.R_reads' HO724.out).2.2);(case side4 => exact (Kd.R_reads' HO724.out).2.1);rintro e w' ⟨rfl, ⟨nd, rfl⟩⟩;refine ⟨_, rfl, ?_⟩;have hnb60 := NB708_691.out;have hnc60 := NB691_708.out;have hcz61_0 := bC0 BK708.out;have hcz61_1 := bC1 BK708.out;have hfz61_0 := blk_frozen BK708.out 0;have hfz61_1 := blk_frozen BK708.out 1) | ((with_reducible refine gate_callee (f := 13) rfl ?_);refine goesL_ (some 72) rfl rfl Tryd.func13 (by kernel_rfl) rfl #[.agg #[.int .i64 t704, .slice Ao33 t705.length co33], .int .i64 1] rfl mM ?_;(with_reducible refine (laws_markGraph.calls t704 (fun k_ => some k_ = (.slice Ao33 t705.length co33 : Value).ownBlock) (.slice Ao33 t705.length co33) t705 1 t726 t727 w _ ?side1 ?side2 A51.out).mono ?_);(case side1 => exact bB);(case side2 => exact Kd.R_tight rfl HO_709001.out);rintro e w62 ⟨rfl, hy0, hb, hkp⟩;refine ⟨_, rfl, ?_⟩;have n0_ := aM (Kd.R_mono (ok' := fun k_ => some k_ ≠ (.slice Ao36 t709.length co36 : Value).ownBlock ∧ some k_ ≠ (v713 : Value).ownBlock ∧ some k_ ≠ (.slice Ao59 t722.length co59 : Value).ownBlock) (Kd.R_keptB ((Kd.R_apart' HO_10.out (Kd.R_typed HO_709001.out) (by decide))) hkp (fun k_ hk_ hs_ => (hk_.2) hs_)) (fun k_ hk_ => ⟨hk_.1.1.1.1, hk_.1.1.1.2, hk_.1.1.2⟩));have n1_ := aM (Kd.R_mono (ok' := fun k_ => some k_ ≠ (v701 : Value).ownBlock ∧ some k_ ≠ (v713 : Value).ownBlock ∧ some k_ ≠ (.slice Ao59 t722.length co59 : Value).ownBlock) (Kd.R_keptB ((Kd.R_apart' HO_13.out (Kd.R_typed HO_709001.out) (by decide))) hkp (fun k_ hk_ hs_ => (hk_.2) hs_)) (fun k_ hk_ => ⟨hk_.1.1.1.1, hk_.1.1.1.2, hk_.1.1.2⟩));have n2_ := aM (Kd.R_mono (ok' := fun k_ => some k_ ≠ (v701 : Value).ownBlock ∧ some k_ ≠ (.slice Ao36 t709.length co36 : Value).ownBlock ∧ some k_ ≠ (.slice Ao59 t722.length co59 : Value).ownBlock) (Kd.R_keptB ((Kd.R_apart' HO_14.out (Kd.R_typed HO_709001.out) (by decide))) hkp (fun k_ hk_ hs_ => (hk_.2) hs_)) (fun k_ hk_ => ⟨hk_.1.1.1.1, hk_.1.1.1.2, hk_.1.1.2⟩));have n3_ := aM (Kd.R_reok rfl hy0 (fun k_ e_ => HO_709001.out.1 k_ e_));have n4_ := aM (blk_kept (by exact kP BK691.out) hkp (fun hs_ => (fun e_ => (Kd.R_ne HO_709001.out BK691.out (by decide)) e_) hs_));have n5_ := aM (blk_kept (by exact kP BK708.out) hkp (fun hs_ => (fun e_ => (Kd.R_ne HO_709001.out BK708.out (by decide)) e_) hs_));have n6_ := aM (Kd.R_mono (ok' := fun k_ => some k_ ≠ (.slice Ao33 t705.length co33 : Value).ownBlock) (Kd.R_keptB (HO720.out) hkp (fun k_ hk_ hs_ => (hk_.2) hs_)) (fun k_ hk_ => hk_.1.2));have n7_ := aM (Kd.R_mono (ok' := fun k_ => some k_ ≠ (v701 : Value).ownBlock ∧ some k_ ≠ (.slice Ao36 t709.length co36 : Value).ownBlock ∧ some k_ ≠ (v713 : Value).ownBlock) (Kd.R_keptB ((Kd.R_apart' HO724.out (Kd.R_typed HO_709001.out) (by decide))) hkp (fun k_ hk_ hs_ => (hk_.2) hs_)) (fun k_ hk_ => ⟨hk_.1.1.1.1.2, hk_.1.1.1.2, hk_.1.1.2⟩));have n8_ := aM (hb);clear HO_10;clear HO_13;clear HO_14;clear HO_709001;clear BK691;clear BK708;clear HO720;clear HO724;clear HB;have HO_10 := n0_;have HO_13 := n1_;have HO_14 := n2_;have HO_709001 := n3_;have BK691 := n4_;have BK708 := n5_;have HO720 := n6_;have HO724 := n7_;have HB := n8_;clear n0_ n1_ n2_ n3_ n4_ n5_ n6_ n7_ n8_;(try clear hb);(try clear hkp);(try clear hy0)) | ((with_reducible refine gate_callee (f := 22) rfl ?_);refine goesL_ (some 75) rfl rfl Tryd.func22 (by kernel_rfl) rfl #[.slice Ao36 t709.length co36, .int .i64 t726] rfl mM ?_;(with_reducible refine (laws_markIntS.calls kj17 (fun k_ => some k_ = (.slice Ao36 t709.length co36 : Value).ownBlock) (.slice Ao36 t709.length co36) t709 t726 t728 t729 w _ ?side1 ?side2 A52.out).mono ?_);(case side1 => exact bB);(case side2 => exact Kd.R_tight rfl HO_13.out);rintro e w63 ⟨rfl, hy0, hb, hkp⟩;refine ⟨_, rfl, ?_⟩;have n0_ := aM (Kd.R_mono (ok' := fun k_ => some k_ ≠ (.slice Ao36 t709.length co36 : Value).ownBlock ∧ some k_ ≠ (v713 : Value).ownBlock ∧ some k_ ≠ (.slice Ao59 t722.length co59 : Value).ownBlock) (Kd.R_keptB (HO_10.out) hkp (fun k_ hk_ hs_ => (hk_.1) hs_)) (fun k_ hk_ => ⟨hk_.1.1, hk_.1.2.1, hk_.1.2.2⟩));have n1_ := aM (Kd.R_reok rfl hy0 (fun k_ e_ => HO_13.out.1 k_ e_));have n2_ := aM (Kd.R_mono (ok' := fun k_ => some k_ ≠ (v701 : Value).ownBlock ∧ some k_ ≠ (.slice Ao36 t709.length co36 : Value).ownBlock ∧ some k_ ≠ (.slice Ao59 t722.length co59 : Value).ownBlock) (Kd.R_keptB (HO_14.out) hkp (fun k_ hk_ hs_ => (hk_.2.1) hs_)) (fun k_ hk_ => ⟨hk_.1.1, hk_.1.2.1, hk_.1.2.2⟩));have n3_ := aM (Kd.R_mono (ok' := fun k_ => some k_ ≠ (.slice Ao56 t718.length co56 : Value).ownBlock) (Kd.R_keptB ((Kd.R_apart' HO_709001.out (Kd.R_typed HO_13.out) (by decide))) hkp (fun k_ hk_ hs_ => (hk_.2) hs_)) (fun k_ hk_ => hk_.1.1.2));have n4_ := aM (blk_kept (by exact kP BK691.out) hkp (fun hs_ => (fun e_ => (Kd.R_ne HO_13.out BK691.out (by decide)) e_) hs_));have n5_ := aM (blk_kept (by exact kP BK708.out) hkp (fun hs_ => (fun e_ => (Kd.R_ne HO_13.out BK708.out (by decide)) e_) hs_));have n6_ := aM (Kd.R_mono (ok' := fun k_ => some k_ ≠ (.slice Ao33 t705.length co33 : Value).ownBlock) (Kd.R_keptB ((Kd.R_apart' HO720.out (Kd.R_typed HO_13.out) (by decide))) hkp (fun k_ hk_ hs_ => (hk_.2) hs_)) (fun k_ hk_ => hk_.1.1));have n7_ := aM (Kd.R_mono (ok' := fun k_ => some k_ ≠ (v701 : Value).ownBlock ∧ some k_ ≠ (.slice Ao36 t709.length co36 : Value).ownBlock ∧ some k_ ≠ (v713 : Value).ownBlock) (Kd.R_keptB (HO724.out) hkp (fun k_ hk_ hs_ => (hk_.2.1) hs_)) (fun k_ hk_ => ⟨hk_.1.1, hk_.1.2.1, hk_.1.2.2⟩));have n8_ := aM (hb);clear HO_10;clear HO_13;clear HO_14;clear HO_709001;clear BK691;clear BK708;clear HO720;clear HO724;clear HB;have HO_10 := n0_;have HO_13 := n1_;have HO_14 := n2_;have HO_709001 := n3_;have BK691 := n4_;have BK708 := n5_;have HO720 := n6_;have HO724 := n7_;have HB := n8_;clear n0_ n1_ n2_ n3_ n4_ n5_ n6_ n7_ n8_;(try clear hb);(try clear hkp);(try clear hy0)))
   (try simp only [Act.put, List.setIfInBounds_toArray, List.set_cons_zero, List.set_cons_succ])
   go_cut [88] (fun v88 wc => ∃ (kq : Nat) (x88_52 : Bool), v88 = .bool x88_52 ∧ Aside0 (laws_FnExactBestAnswer.j1 kq l1 a2 a3 t700 t703 t712 x88_52 a0_0 l0_1 = some r) ∧ Aside0 (kq ≤ kj17) ∧ Aside0 (Kd.R (Kd.int .i64) 3 wc w.heap.size (fun k_ => some k_ ≠ (v713 : Value).ownBlock) v701 t700) ∧ Aside0 (Kd.R (Kd.int .i64) 3 wc w.heap.size (fun k_ => some k_ ≠ (v701 : Value).ownBlock) v713 t712) ∧ Aside0 (Kd.R k78 78 wc w.heap.size (fun _ => True) (.slice Ao33 t705.length co33) t727) ∧ Aside0 (wc.heap[gb691]? = some (.cells #[.int .i64 a0_0, (.slice A0_1 l0_1.length c0_1)] 24 (0, 0))) ∧ Aside0 (wc.heap[gb708]? = some (.cells #[.int .i64 t704, (.slice Ao33 t705.length co33)] 29 (0, 0))) ∧ Aside0 (Below w.heap.size w wc))
   case first =>
    have H := HC53.out
    clear HC53
    by_cases c64 : t728 < 0
    ·rw [if_pos c64] at H
     have c64b0 : decide (t728 < 0) = true := decide_eq_true c64
     clear c64
     (first | rw [c64b0] | (simp only [i64_w, i32_w];rw [c64b0]) | skip)
     have H' := Aside0.mk H
     clear H
     go_wp2
     go_meet
     case rel => exact ⟨_, (true), eF, H', ⟨by have := HJ17.out;first | omega | exact Nat.le_refl _⟩, ⟨by refine rP ?_;exact Kd.R_mono HO_10.out (fun _ hk => hk.2.1)⟩, ⟨by refine rP ?_;exact Kd.R_mono HO_14.out (fun _ hk => hk.1)⟩, ⟨by refine rP ?_;exact Kd.R_mono HO_709001.out (fun _ hk => trivial)⟩, ⟨by exact kP BK691.out⟩, ⟨by exact kP BK708.out⟩, ⟨by exact bB⟩⟩
    rw [if_neg c64] at H
    have c64b0 : decide (t728 < 0) = false := decide_eq_false c64
    clear c64
    (first | rw [c64b0] | (simp only [i64_w, i32_w];rw [c64b0]) | skip)
    replace H := Option.bind_eq_some_iff.mp H
    obtain ⟨t730, A650, H⟩ := H
    replace H : (if t730 = true then (laws_FnExactBestAnswer.j1 kj17 l1 a2 a3 t700 t703 t712 (t715 != t703) a0_0 l0_1) else (laws_FnExactBestAnswer.j1 kj17 l1 a2 a3 t700 t703 t712 true a0_0 l0_1)) = some r := H
    have A65 := Aside0.mk A650
    clear A650
    by_cases c66 : t730 = true
    ·subst c66
     have H1 : (laws_FnExactBestAnswer.j1 kj17 l1 a2 a3 t700 t703 t712 (t715 != t703) a0_0 l0_1) = some r := by rw [if_pos rfl] at H;exact H
     clear H
     have H := H1
     clear H1
     have H' := Aside0.mk H
     clear H
     obtain ⟨Ao67, co67, eo67⟩ := Kd.R_slice HO_14.out
     subst eo67
     obtain ⟨Ao68, co68, eo68⟩ := Kd.R_slice HO_10.out
     subst eo68
     go_wp2_with (first | (go_at_call 19;(with_reducible refine (laws_eqIntS.calls kj17 _ _ t712 _ _ t700 true _ ?side1 ?side2 ?side3 ?side4 A65.out).mono ?_);(case side1 => exact cP (Kd.R_reads' HO_14.out).2.2);(case side2 => exact (Kd.R_reads' HO_14.out).2.1);(case side3 => exact cP (Kd.R_reads' HO_10.out).2.2);(case side4 => exact (Kd.R_reads' HO_10.out).2.1);rintro e w' ⟨rfl, ⟨nd, rfl⟩⟩))
     go_meet
     case rel => exact ⟨_, ((t715 != t703)), eF, H', ⟨by have := HJ17.out;first | omega | exact Nat.le_refl _⟩, ⟨by refine rP ?_;exact Kd.R_mono HO_10.out (fun _ hk => hk.2.1)⟩, ⟨by refine rP ?_;exact Kd.R_mono HO_14.out (fun _ hk => hk.1)⟩, ⟨by refine rP ?_;exact Kd.R_mono HO_709001.out (fun _ hk => trivial)⟩, ⟨by exact kP BK691.out⟩, ⟨by exact kP BK708.out⟩, ⟨by exact bB⟩⟩
    replace c66 := Bool.eq_false_iff.mpr c66
    subst c66
    have H1 : (laws_FnExactBestAnswer.j1 kj17 l1 a2 a3 t700 t703 t712 true a0_0 l0_1) = some r := by rw [if_neg (show ¬ (false = true) by decide)] at H;exact H
    clear H
    have H := H1
    clear H1
    have H' := Aside0.mk H
    clear H
    obtain ⟨Ao69, co69, eo69⟩ := Kd.R_slice HO_14.out
    subst eo69
    obtain ⟨Ao70, co70, eo70⟩ := Kd.R_slice HO_10.out
    subst eo70
    go_wp2_with (first | (go_at_call 19;(with_reducible refine (laws_eqIntS.calls kj17 _ _ t712 _ _ t700 false _ ?side1 ?side2 ?side3 ?side4 A65.out).mono ?_);(case side1 => exact cP (Kd.R_reads' HO_14.out).2.2);(case side2 => exact (Kd.R_reads' HO_14.out).2.1);(case side3 => exact cP (Kd.R_reads' HO_10.out).2.2);(case side4 => exact (Kd.R_reads' HO_10.out).2.1);rintro e w' ⟨rfl, ⟨nd, rfl⟩⟩))
    go_meet
    case rel => exact ⟨_, (true), eF, H', ⟨by have := HJ17.out;first | omega | exact Nat.le_refl _⟩, ⟨by refine rP ?_;exact Kd.R_mono HO_10.out (fun _ hk => hk.2.1)⟩, ⟨by refine rP ?_;exact Kd.R_mono HO_14.out (fun _ hk => hk.1)⟩, ⟨by refine rP ?_;exact Kd.R_mono HO_709001.out (fun _ hk => trivial)⟩, ⟨by exact kP BK691.out⟩, ⟨by exact kP BK708.out⟩, ⟨by exact bB⟩⟩
   case rest =>
    clear HC53
    try clear c1
    try clear c2
    try clear p2
    try clear c3
    try clear c4
    try clear c5
    try clear c5b0
    try clear c5b1
    try clear c6
    try clear c7
    try clear c8
    try clear c8b0
    try clear c9
    try clear c12
    try clear c13
    try clear c17
    try clear c19
    try clear c20
    try clear c21
    try clear c22
    try clear c31
    try clear c39
    try clear c44
    try clear c47
    try clear c50
    try clear c60
    try clear c64
    try clear c64b0
    try clear c66
    try clear hcz10_0
    try clear hcz10_1
    try clear hcz20_0
    try clear hcz20_1
    try clear hcz22_0
    try clear hcz22_1
    try clear hcz28_0
    try clear hcz28_1
    try clear hcz32_0
    try clear hcz32_1
    try clear hcz35_0
    try clear hcz35_1
    try clear hcz61_0
    try clear hcz61_1
    try clear hfz10_0
    try clear hfz10_1
    try clear hfz20_0
    try clear hfz20_1
    try clear hfz22_0
    try clear hfz22_1
    try clear hfz28_0
    try clear hfz28_1
    try clear hfz32_0
    try clear hfz32_1
    try clear hfz35_0
    try clear hfz35_1
    try clear hfz61_0
    try clear hfz61_1
    try clear p2
    obtain ⟨kq, x88_52, rfl, HA, HJ52, HO_10, HO_14, HO_709001, BK691, BK708, HB⟩ := hcut
    have hl709001_52 := (Kd.R_reads' HO_709001.out).1
    rw [hl709001_52] at HO_709001
    (try simp only [hl709001_52])
    (try simp only [hl709001_52] at BK691)
    (try simp only [hl709001_52] at BK708)
    (try simp only [hl709001_52] at HO_10)
    (try simp only [hl709001_52] at HO_14)
    cases kq with
    | zero => exact absurd HA.out (by simp [laws_FnExactBestAnswer.j1])
    | succ kj52 =>
     have H := HA.out
     clear HA
     simp only [laws_FnExactBestAnswer.j1] at H
     by_cases c71 : x88_52 = true
     ·subst c71
      have H1 : (some false) = some r := by rw [if_pos rfl] at H;exact H
      clear H
      have H := H1
      clear H1
      obtain rfl := Option.some.inj H
      go_wp2
      go_ret
      exact ⟨eW, by exact bB⟩
     replace c71 := Bool.eq_false_iff.mpr c71
     subst c71
     have H1 : ((laws_markIntS.f kj52 t712 1).bind fun bt731 => ((laws_heldIntS.f kj52 bt731.2 1).bind fun t733 => (if t733 < 0 then (some false) else (if t733 = bt731.1 then ((laws_toGraph.f kj52 a0_0 l0_1).bind fun bt734 => ((laws_toIntS.f kj52 l1).bind fun t738 => ((impl_BestAnswer.f kj52 bt734.1 bt734.2 t738 a2 a3).bind fun bt741 => ((laws_eqIntS.f kj52 bt741.1 t700).bind fun t745 => (if t745 = true then (laws_FnExactBestAnswer.j2 kj52 bt731.2 bt731.1 (bt741.2 != t703)) else (laws_FnExactBestAnswer.j2 kj52 bt731.2 bt731.1 true)))))) else (some false))))) = some r := by rw [if_neg (show ¬ (false = true) by decide)] at H;exact H
     clear H
     have H := H1
     clear H1
     replace H := Option.bind_eq_some_iff.mp H
     obtain ⟨⟨t731, t732⟩, A720, H⟩ := H
     replace H : ((laws_heldIntS.f kj52 t732 1).bind fun t733 => (if t733 < 0 then (some false) else (if t733 = t731 then ((laws_toGraph.f kj52 a0_0 l0_1).bind fun bt734 => ((laws_toIntS.f kj52 l1).bind fun t738 => ((impl_BestAnswer.f kj52 bt734.1 bt734.2 t738 a2 a3).bind fun bt741 => ((laws_eqIntS.f kj52 bt741.1 t700).bind fun t745 => (if t745 = true then (laws_FnExactBestAnswer.j2 kj52 t732 t731 (bt741.2 != t703)) else (laws_FnExactBestAnswer.j2 kj52 t732 t731 true)))))) else (some false)))) = some r := H
     have A72 := Aside0.mk A720
     clear A720
     replace H := Option.bind_eq_some_iff.mp H
     obtain ⟨t733, A730, H⟩ := H
     replace H : (if t733 < 0 then (some false) else (if t733 = t731 then ((laws_toGraph.f kj52 a0_0 l0_1).bind fun bt734 => ((laws_toIntS.f kj52 l1).bind fun t738 => ((impl_BestAnswer.f kj52 bt734.1 bt734.2 t738 a2 a3).bind fun bt741 => ((laws_eqIntS.f kj52 bt741.1 t700).bind fun t745 => (if t745 = true then (laws_FnExactBestAnswer.j2 kj52 t732 t731 (bt741.2 != t703)) else (laws_FnExactBestAnswer.j2 kj52 t732 t731 true)))))) else (some false))) = some r := H
     have A73 := Aside0.mk A730
     clear A730
     by_cases c74 : t733 < 0
     ·rw [if_pos c74] at H
      have c74b0 : decide (t733 < 0) = true := decide_eq_true c74
      clear c74
      obtain rfl := Option.some.inj H
      obtain ⟨Ao75, co75, eo75⟩ := Kd.R_slice HO_14.out
      subst eo75
      go_wp2_with (first | ((with_reducible refine gate_callee (f := 22) rfl ?_);refine goesL_ (some 91) rfl rfl Tryd.func22 (by kernel_rfl) rfl #[.slice Ao75 t712.length co75, .int .i64 1] rfl mM ?_;(with_reducible refine (laws_markIntS.calls kj52 (fun k_ => some k_ = (.slice Ao75 t712.length co75 : Value).ownBlock) (.slice Ao75 t712.length co75) t712 1 t731 t732 w _ ?side1 ?side2 A72.out).mono ?_);(case side1 => exact bB);(case side2 => exact Kd.R_tight rfl HO_14.out);rintro e w76 ⟨rfl, hy0, hb, hkp⟩;refine ⟨_, rfl, ?_⟩;have n0_ := aM (Kd.R_mono (ok' := fun k_ => some k_ ≠ (.slice Ao75 t712.length co75 : Value).ownBlock) (Kd.R_keptB (HO_10.out) hkp (fun k_ hk_ hs_ => (hk_) hs_)) (fun k_ hk_ => hk_.1));have n1_ := aM (Kd.R_reok rfl hy0 (fun k_ e_ => HO_14.out.1 k_ e_));have n2_ := aM (Kd.R_mono (ok' := fun k_ => True) (Kd.R_keptB ((Kd.R_apart' HO_709001.out (Kd.R_typed HO_14.out) (by decide))) hkp (fun k_ hk_ hs_ => (hk_.2) hs_)) (fun k_ hk_ => trivial));have n3_ := aM (blk_kept (by exact kP BK691.out) hkp (fun hs_ => (fun e_ => (Kd.R_ne HO_14.out BK691.out (by decide)) e_) hs_));have n4_ := aM (blk_kept (by exact kP BK708.out) hkp (fun hs_ => (fun e_ => (Kd.R_ne HO_14.out BK708.out (by decide)) e_) hs_));have n5_ := aM (hb);clear HO_10;clear HO_14;clear HO_709001;clear BK691;clear BK708;clear HB;have HO_10 := n0_;have HO_14 := n1_;have HO_709001 := n2_;have BK691 := n3_;have BK708 := n4_;have HB := n5_;clear n0_ n1_ n2_ n3_ n4_ n5_;(try clear hb);(try clear hkp);(try clear hy0)) | ((with_reducible refine gate_callee (f := 23) rfl ?_);refine goesL_ (some 94) rfl rfl Tryd.func23 (by kernel_rfl) rfl #[.slice Ao75 t732.length co75, .int .i64 1] rfl (by (try simp only [List.map_toArray, List.map_cons, List.map_nil]);first | done | (rw [show t732.length = t712.length from (Kd.R_reads' HO_14.out).1.symm] <;> rfl) | rfl | (simp only [List.length_drop, List.length_take];rfl)) ?_;(with_reducible refine (laws_heldIntS.calls kj52 _ _ t732 1 t733 _ ?side1 ?side2 A73.out).mono ?_);(case side1 => exact cP (Kd.R_reads' HO_14.out).2.2);(case side2 => rw [show t732.length = t712.length from (Kd.R_reads' HO_14.out).1.symm];exact (Kd.R_reads' HO_14.out).2.1);rintro e w' ⟨rfl, ⟨nd, rfl⟩⟩;refine ⟨_, rfl, ?_⟩))
      go_ret
      exact ⟨eW, by exact bB⟩
     rw [if_neg c74] at H
     have c74b0 : decide (t733 < 0) = false := decide_eq_false c74
     clear c74
     by_cases c77 : t733 = t731
     rotate_left
     ·rw [if_neg c77] at H
      have c77b0 : (t733 == t731) = false := beq_eq_false_iff_ne.mpr c77
      have c77b1 : (t733 != t731) = true := bne_iff_ne.mpr c77
      obtain rfl := Option.some.inj H
      obtain ⟨Ao101, co101, eo101⟩ := Kd.R_slice HO_14.out
      subst eo101
      go_wp2_with (first | ((with_reducible refine gate_callee (f := 22) rfl ?_);refine goesL_ (some 91) rfl rfl Tryd.func22 (by kernel_rfl) rfl #[.slice Ao101 t712.length co101, .int .i64 1] rfl mM ?_;(with_reducible refine (laws_markIntS.calls kj52 (fun k_ => some k_ = (.slice Ao101 t712.length co101 : Value).ownBlock) (.slice Ao101 t712.length co101) t712 1 t731 t732 w _ ?side1 ?side2 A72.out).mono ?_);(case side1 => exact bB);(case side2 => exact Kd.R_tight rfl HO_14.out);rintro e w102 ⟨rfl, hy0, hb, hkp⟩;refine ⟨_, rfl, ?_⟩;have n0_ := aM (Kd.R_mono (ok' := fun k_ => some k_ ≠ (.slice Ao101 t712.length co101 : Value).ownBlock) (Kd.R_keptB (HO_10.out) hkp (fun k_ hk_ hs_ => (hk_) hs_)) (fun k_ hk_ => hk_.1));have n1_ := aM (Kd.R_reok rfl hy0 (fun k_ e_ => HO_14.out.1 k_ e_));have n2_ := aM (Kd.R_mono (ok' := fun k_ => True) (Kd.R_keptB ((Kd.R_apart' HO_709001.out (Kd.R_typed HO_14.out) (by decide))) hkp (fun k_ hk_ hs_ => (hk_.2) hs_)) (fun k_ hk_ => trivial));have n3_ := aM (blk_kept (by exact kP BK691.out) hkp (fun hs_ => (fun e_ => (Kd.R_ne HO_14.out BK691.out (by decide)) e_) hs_));have n4_ := aM (blk_kept (by exact kP BK708.out) hkp (fun hs_ => (fun e_ => (Kd.R_ne HO_14.out BK708.out (by decide)) e_) hs_));have n5_ := aM (hb);clear HO_10;clear HO_14;clear HO_709001;clear BK691;clear BK708;clear HB;have HO_10 := n0_;have HO_14 := n1_;have HO_709001 := n2_;have BK691 := n3_;have BK708 := n4_;have HB := n5_;clear n0_ n1_ n2_ n3_ n4_ n5_;(try clear hb);(try clear hkp);(try clear hy0)) | ((with_reducible refine gate_callee (f := 23) rfl ?_);refine goesL_ (some 94) rfl rfl Tryd.func23 (by kernel_rfl) rfl #[.slice Ao101 t732.length co101, .int .i64 1] rfl (by (try simp only [List.map_toArray, List.map_cons, List.map_nil]);first | done | (rw [show t732.length = t712.length from (Kd.R_reads' HO_14.out).1.symm] <;> rfl) | rfl | (simp only [List.length_drop, List.length_take];rfl)) ?_;(with_reducible refine (laws_heldIntS.calls kj52 _ _ t732 1 t733 _ ?side1 ?side2 A73.out).mono ?_);(case side1 => exact cP (Kd.R_reads' HO_14.out).2.2);(case side2 => rw [show t732.length = t712.length from (Kd.R_reads' HO_14.out).1.symm];exact (Kd.R_reads' HO_14.out).2.1);rintro e w' ⟨rfl, ⟨nd, rfl⟩⟩;refine ⟨_, rfl, ?_⟩))
      go_ret
      exact ⟨eW, by exact bB⟩
     rw [if_pos c77] at H
     have c77b0 : (t733 == t731) = true := beq_iff_eq.mpr c77
     have c77b1 : (t733 != t731) = false := bne_eq_false_iff_eq.mpr c77
     clear c77
     replace H := Option.bind_eq_some_iff.mp H
     obtain ⟨⟨t734, t735⟩, A780, H⟩ := H
     replace H : ((laws_toIntS.f kj52 l1).bind fun t738 => ((impl_BestAnswer.f kj52 t734 t735 t738 a2 a3).bind fun bt741 => ((laws_eqIntS.f kj52 bt741.1 t700).bind fun t745 => (if t745 = true then (laws_FnExactBestAnswer.j2 kj52 t732 t731 (bt741.2 != t703)) else (laws_FnExactBestAnswer.j2 kj52 t732 t731 true))))) = some r := H
     have A78 := Aside0.mk A780
     clear A780
     replace H := Option.bind_eq_some_iff.mp H
     obtain ⟨t738, A790, H⟩ := H
     replace H : ((impl_BestAnswer.f kj52 t734 t735 t738 a2 a3).bind fun bt741 => ((laws_eqIntS.f kj52 bt741.1 t700).bind fun t745 => (if t745 = true then (laws_FnExactBestAnswer.j2 kj52 t732 t731 (bt741.2 != t703)) else (laws_FnExactBestAnswer.j2 kj52 t732 t731 true)))) = some r := H
     have A79 := Aside0.mk A790
     clear A790
     replace H := Option.bind_eq_some_iff.mp H
     obtain ⟨⟨t741, t744⟩, A800, H⟩ := H
     replace H : ((laws_eqIntS.f kj52 t741 t700).bind fun t745 => (if t745 = true then (laws_FnExactBestAnswer.j2 kj52 t732 t731 (t744 != t703)) else (laws_FnExactBestAnswer.j2 kj52 t732 t731 true))) = some r := H
     have A80 := Aside0.mk A800
     clear A800
     have HC81 := Aside0.mk H
     clear H
     obtain ⟨Ao82, co82, eo82⟩ := Kd.R_slice HO_14.out
     subst eo82
     go_upto_region 31 with (first | ((with_reducible refine gate_callee (f := 22) rfl ?_);refine goesL_ (some 91) rfl rfl Tryd.func22 (by kernel_rfl) rfl #[.slice Ao82 t712.length co82, .int .i64 1] rfl mM ?_;(with_reducible refine (laws_markIntS.calls kj52 (fun k_ => some k_ = (.slice Ao82 t712.length co82 : Value).ownBlock) (.slice Ao82 t712.length co82) t712 1 t731 t732 w _ ?side1 ?side2 A72.out).mono ?_);(case side1 => exact bB);(case side2 => exact Kd.R_tight rfl HO_14.out);rintro e w83 ⟨rfl, hy0, hb, hkp⟩;refine ⟨_, rfl, ?_⟩;have n0_ := aM (Kd.R_mono (ok' := fun k_ => some k_ ≠ (.slice Ao82 t712.length co82 : Value).ownBlock) (Kd.R_keptB (HO_10.out) hkp (fun k_ hk_ hs_ => (hk_) hs_)) (fun k_ hk_ => hk_.1));have n1_ := aM (Kd.R_reok rfl hy0 (fun k_ e_ => HO_14.out.1 k_ e_));have n2_ := aM (Kd.R_mono (ok' := fun k_ => True) (Kd.R_keptB ((Kd.R_apart' HO_709001.out (Kd.R_typed HO_14.out) (by decide))) hkp (fun k_ hk_ hs_ => (hk_.2) hs_)) (fun k_ hk_ => trivial));have n3_ := aM (blk_kept (by exact kP BK691.out) hkp (fun hs_ => (fun e_ => (Kd.R_ne HO_14.out BK691.out (by decide)) e_) hs_));have n4_ := aM (blk_kept (by exact kP BK708.out) hkp (fun hs_ => (fun e_ => (Kd.R_ne HO_14.out BK708.out (by decide)) e_) hs_));have n5_ := aM (hb);clear HO_10;clear HO_14;clear HO_709001;clear BK691;clear BK708;clear HB;have HO_10 := n0_;have HO_14 := n1_;have HO_709001 := n2_;have BK691 := n3_;have BK708 := n4_;have HB := n5_;clear n0_ n1_ n2_ n3_ n4_ n5_;(try clear hb);(try clear hkp);(try clear hy0)) | ((with_reducible refine gate_callee (f := 23) rfl ?_);refine goesL_ (some 94) rfl rfl Tryd.func23 (by kernel_rfl) rfl #[.slice Ao82 t732.length co82, .int .i64 1] rfl (by (try simp only [List.map_toArray, List.map_cons, List.map_nil]);first | done | (rw [show t732.length = t712.length from (Kd.R_reads' HO_14.out).1.symm] <;> rfl) | rfl | (simp only [List.length_drop, List.length_take];rfl)) ?_;(with_reducible refine (laws_heldIntS.calls kj52 _ _ t732 1 t733 _ ?side1 ?side2 A73.out).mono ?_);(case side1 => exact cP (Kd.R_reads' HO_14.out).2.2);(case side2 => rw [show t732.length = t712.length from (Kd.R_reads' HO_14.out).1.symm];exact (Kd.R_reads' HO_14.out).2.1);rintro e w' ⟨rfl, ⟨nd, rfl⟩⟩;refine ⟨_, rfl, ?_⟩;have hnb84 := NB691_708.out;have hnc84 := NB708_691.out;have hcz85_0 := bC0 BK691.out;have hcz85_1 := bC1 BK691.out;have hfz85_0 := blk_frozen BK691.out 0;have hfz85_1 := blk_frozen BK691.out 1) | ((with_reducible refine gate_callee (f := 9) rfl ?_);refine goesL_ (some 102) rfl rfl Tryd.func9 (by kernel_rfl) rfl #[.agg #[.int .i64 a0_0, .slice A0_1 l0_1.length c0_1]] rfl mM ?_;(with_reducible refine (laws_toGraph.calls kj52 a0_0 _ _ l0_1 t734 t735 _ ?side1 ?side2 A78.out).mono ?_);(case side1 => exact cP (Kd.C_below HR0_1.out (by repeat (first | (with_reducible first | exact HB.out | apply below_alloc | apply pw_below_drewN | apply below_drew1 | refine below_set ?_ GE691.out | refine below_set ?_ GE708.out) | exact HB.out))));(case side2 => exact HC0_1.out);rintro e w86 ⟨v736, rfl, ho0, hb⟩;refine ⟨_, rfl, ?_⟩;have n0_ := aM (Kd.R_below (by exact rP HO_10.out) hb);have n1_ := aM (Kd.R_below (by exact rP HO_14.out) hb);have n2_ := aM (Kd.R_elder' (by exact rP HO_709001.out) (Kd.R_base ho0) hb);have n3_ := aM (Kd.R_lower (Kd.R_new' ho0 (Kd.R_lt (by exact rP HO_709001.out))) (below_size (by exact bB)));have n4_ := aM (kB hb BK691.out);have n5_ := aM (kB hb BK708.out);have n6_ := aM (below_step (by exact bB) hb);clear HO_10;clear HO_14;clear HO_709001;clear BK691;clear BK708;clear HB;have HO_10 := n0_;have HO_14 := n1_;have HO_709001 := n2_;have HO737 := n3_;have BK691 := n4_;have BK708 := n5_;have HB := n6_;clear n0_ n1_ n2_ n3_ n4_ n5_ n6_;(try clear hb);(try clear ho0)) | ((with_reducible refine gate_callee (f := 17) rfl ?_);refine goesL_ (some 104) rfl rfl Tryd.func17 (by kernel_rfl) rfl #[.slice A1 l1.length c1] rfl mM ?_;(with_reducible refine (laws_toIntS.calls kj52 _ _ l1 t738 _ ?side1 ?side2 A79.out).mono ?_);(case side1 => exact cP (Kd.C_below HR1.out HB.out));(case side2 => exact HC1.out);rintro e w87 ⟨v739, rfl, ho0, hb⟩;refine ⟨_, rfl, ?_⟩;have n0_ := aM (Kd.R_elder' (by exact rP HO_10.out) (Kd.R_base ho0) hb);have n1_ := aM (Kd.R_elder' (by exact rP HO_14.out) (Kd.R_base ho0) hb);have n2_ := aM (Kd.R_below (by exact rP HO_709001.out) hb);have n3_ := aM (Kd.R_below (by exact rP HO737.out) hb);have n4_ := aM (Kd.R_lower (Kd.R_new' (Kd.R_new' ho0 (Kd.R_lt (by exact rP HO_10.out))) (Kd.R_lt (by exact rP HO_14.out))) (below_size (by exact bB)));have n5_ := aM (kB hb BK691.out);have n6_ := aM (kB hb BK708.out);have n7_ := aM (below_step (by exact bB) hb);clear HO_10;clear HO_14;clear HO_709001;clear HO737;clear BK691;clear BK708;clear HB;have HO_10 := n0_;have HO_14 := n1_;have HO_709001 := n2_;have HO737 := n3_;have HO740 := n4_;have BK691 := n5_;have BK708 := n6_;have HB := n7_;clear n0_ n1_ n2_ n3_ n4_ n5_ n6_ n7_;(try clear hb);(try clear ho0);obtain ⟨Ao88, co88, eo88⟩ := Kd.R_slice HO737.out;subst eo88;obtain ⟨Ao89, co89, eo89⟩ := Kd.R_slice HO740.out;subst eo89) | ((with_reducible refine gate_callee (f := 21) rfl ?_);refine goesL_ (some 107) rfl rfl Tryd.func21 (by kernel_rfl) rfl #[.agg #[.int .i64 t734, .slice Ao88 t735.length co88], .slice Ao89 t738.length co89, .int .i64 a2, .bool a3] rfl mM ?_;(with_reducible refine (impl_BestAnswer.calls kj52 t734 _ _ t735 _ _ t738 a2 a3 t741 t744 _ ?sideT ?side1 ?side2 ?side3 ?side4 A80.out).mono ?_);(case sideT => exact tabG_below HT.out (by exact bB));(case side1 => exact cP (Kd.R_reads' HO737.out).2.2);(case side2 => exact (Kd.R_reads' HO737.out).2.1);(case side3 => exact cP (Kd.R_reads' HO740.out).2.2);(case side4 => exact (Kd.R_reads' HO740.out).2.1);rintro e w90 ⟨v742, rfl, ho0, hb⟩;refine ⟨_, rfl, ?_⟩;have n0_ := aM (Kd.R_elder' (by exact rP HO_10.out) (Kd.R_base ho0) hb);have n1_ := aM (Kd.R_elder' (by exact rP HO_14.out) (Kd.R_base ho0) hb);have n2_ := aM (Kd.R_below (by exact rP HO_709001.out) hb);have n3_ := aM (Kd.R_below (by exact rP HO737.out) hb);have n4_ := aM (Kd.R_elder' (by exact rP HO740.out) (Kd.R_base ho0) hb);have n5_ := aM (Kd.R_lower (Kd.R_new' (Kd.R_new' (Kd.R_new' ho0 (Kd.R_lt (by exact rP HO_10.out))) (Kd.R_lt (by exact rP HO_14.out))) (Kd.R_lt (by exact rP HO740.out))) (below_size (by exact bB)));have n6_ := aM (kB hb BK691.out);have n7_ := aM (kB hb BK708.out);have n8_ := aM (below_step (by exact bB) hb);clear HO_10;clear HO_14;clear HO_709001;clear HO737;clear HO740;clear BK691;clear BK708;clear HB;have HO_10 := n0_;have HO_14 := n1_;have HO_709001 := n2_;have HO737 := n3_;have HO740 := n4_;have HO743 := n5_;have BK691 := n6_;have BK708 := n7_;have HB := n8_;clear n0_ n1_ n2_ n3_ n4_ n5_ n6_ n7_ n8_;(try clear hb);(try clear ho0)))
     (try simp only [Act.put, List.setIfInBounds_toArray, List.set_cons_zero, List.set_cons_succ])
     go_cut [118] (fun v118 wc => ∃ (kq : Nat) (x118_80 : Bool), v118 = .bool x118_80 ∧ Aside0 (laws_FnExactBestAnswer.j2 kq t732 t731 x118_80 = some r) ∧ Aside0 (kq ≤ kj52) ∧ Aside0 (Kd.R (Kd.int .i64) 3 wc w.heap.size (fun _ => True) (.slice Ao82 t712.length co82) t732) ∧ Aside0 (Kd.R k78 78 wc w.heap.size (fun _ => True) (.slice Ao33 t727.length co33) t727) ∧ Aside0 (wc.heap[gb691]? = some (.cells #[.int .i64 a0_0, (.slice A0_1 l0_1.length c0_1)] 24 (0, 0))) ∧ Aside0 (wc.heap[gb708]? = some (.cells #[.int .i64 t704, (.slice Ao33 t727.length co33)] 29 (0, 0))) ∧ Aside0 (Below w.heap.size w wc))
     case first =>
      have H := HC81.out
      clear HC81
      replace H := Option.bind_eq_some_iff.mp H
      obtain ⟨t745, A910, H⟩ := H
      replace H : (if t745 = true then (laws_FnExactBestAnswer.j2 kj52 t732 t731 (t744 != t703)) else (laws_FnExactBestAnswer.j2 kj52 t732 t731 true)) = some r := H
      have A91 := Aside0.mk A910
      clear A910
      by_cases c92 : t745 = true
      ·subst c92
       have H1 : (laws_FnExactBestAnswer.j2 kj52 t732 t731 (t744 != t703)) = some r := by rw [if_pos rfl] at H;exact H
       clear H
       have H := H1
       clear H1
       have H' := Aside0.mk H
       clear H
       obtain ⟨Ao93, co93, eo93⟩ := Kd.R_slice HO743.out
       subst eo93
       obtain ⟨Ao94, co94, eo94⟩ := Kd.R_slice HO_10.out
       subst eo94
       go_wp2_with (first | ((with_reducible refine gate_callee (f := 19) rfl ?_);refine goesL_ (some 112) rfl rfl Tryd.func19 (by kernel_rfl) rfl #[.slice Ao93 t741.length co93, .slice Ao94 t700.length co94] rfl mM ?_;(with_reducible refine (laws_eqIntS.calls kj52 _ _ t741 _ _ t700 true _ ?side1 ?side2 ?side3 ?side4 A91.out).mono ?_);(case side1 => exact cP (Kd.R_reads' HO743.out).2.2);(case side2 => exact (Kd.R_reads' HO743.out).2.1);(case side3 => exact cP (Kd.R_reads' HO_10.out).2.2);(case side4 => exact (Kd.R_reads' HO_10.out).2.1);rintro e w' ⟨rfl, ⟨nd, rfl⟩⟩;refine ⟨_, rfl, ?_⟩))
       go_meet
       case rel => exact ⟨_, ((t744 != t703)), eF, H', ⟨by have := HJ17.out;have := HJ52.out;first | omega | exact Nat.le_refl _⟩, ⟨by (try simp only [hl709001_52]);refine rP ?_;exact Kd.R_mono HO_14.out (fun _ hk => trivial)⟩, ⟨by (try simp only [hl709001_52]);refine rP ?_;exact Kd.R_mono HO_709001.out (fun _ hk => trivial)⟩, ⟨by (try simp only [hl709001_52]);exact kP BK691.out⟩, ⟨by (try simp only [hl709001_52]);exact kP BK708.out⟩, ⟨by exact bB⟩⟩
      replace c92 := Bool.eq_false_iff.mpr c92
      subst c92
      have H1 : (laws_FnExactBestAnswer.j2 kj52 t732 t731 true) = some r := by rw [if_neg (show ¬ (false = true) by decide)] at H;exact H
      clear H
      have H := H1
      clear H1
      have H' := Aside0.mk H
      clear H
      obtain ⟨Ao95, co95, eo95⟩ := Kd.R_slice HO743.out
      subst eo95
      obtain ⟨Ao96, co96, eo96⟩ := Kd.R_slice HO_10.out
      subst eo96
      go_wp2_with (first | ((with_reducible refine gate_callee (f := 19) rfl ?_);refine goesL_ (some 112) rfl rfl Tryd.func19 (by kernel_rfl) rfl #[.slice Ao95 t741.length co95, .slice Ao96 t700.length co96] rfl mM ?_;(with_reducible refine (laws_eqIntS.calls kj52 _ _ t741 _ _ t700 false _ ?side1 ?side2 ?side3 ?side4 A91.out).mono ?_);(case side1 => exact cP (Kd.R_reads' HO743.out).2.2);(case side2 => exact (Kd.R_reads' HO743.out).2.1);(case side3 => exact cP (Kd.R_reads' HO_10.out).2.2);(case side4 => exact (Kd.R_reads' HO_10.out).2.1);rintro e w' ⟨rfl, ⟨nd, rfl⟩⟩;refine ⟨_, rfl, ?_⟩))
      go_meet
      case rel => exact ⟨_, (true), eF, H', ⟨by have := HJ17.out;have := HJ52.out;first | omega | exact Nat.le_refl _⟩, ⟨by (try simp only [hl709001_52]);refine rP ?_;exact Kd.R_mono HO_14.out (fun _ hk => trivial)⟩, ⟨by (try simp only [hl709001_52]);refine rP ?_;exact Kd.R_mono HO_709001.out (fun _ hk => trivial)⟩, ⟨by (try simp only [hl709001_52]);exact kP BK691.out⟩, ⟨by (try simp only [hl709001_52]);exact kP BK708.out⟩, ⟨by exact bB⟩⟩
     case rest =>
      clear HC81
      try clear c1
      try clear c2
      try clear p2
      try clear c3
      try clear c4
      try clear c5
      try clear c5b0
      try clear c5b1
      try clear c6
      try clear c7
      try clear c8
      try clear c8b0
      try clear c9
      try clear c12
      try clear c13
      try clear c17
      try clear c19
      try clear c20
      try clear c21
      try clear c22
      try clear c23
      try clear c31
      try clear c39
      try clear c44
      try clear c47
      try clear c50
      try clear c60
      try clear c64
      try clear c64b0
      try clear c66
      try clear c71
      try clear c74
      try clear c74b0
      try clear c77
      try clear c77b0
      try clear c77b1
      try clear c84
      try clear c92
      try clear hcz10_0
      try clear hcz10_1
      try clear hcz20_0
      try clear hcz20_1
      try clear hcz22_0
      try clear hcz22_1
      try clear hcz28_0
      try clear hcz28_1
      try clear hcz32_0
      try clear hcz32_1
      try clear hcz35_0
      try clear hcz35_1
      try clear hcz61_0
      try clear hcz61_1
      try clear hcz85_0
      try clear hcz85_1
      try clear hfz10_0
      try clear hfz10_1
      try clear hfz20_0
      try clear hfz20_1
      try clear hfz22_0
      try clear hfz22_1
      try clear hfz28_0
      try clear hfz28_1
      try clear hfz32_0
      try clear hfz32_1
      try clear hfz35_0
      try clear hfz35_1
      try clear hfz61_0
      try clear hfz61_1
      try clear hfz85_0
      try clear hfz85_1
      try clear p2
      obtain ⟨kq, x118_80, rfl, HA, HJ80, HO_14, HO_709001, BK691, BK708, HB⟩ := hcut
      have hl14_80 := (Kd.R_reads' HO_14.out).1
      rw [hl14_80] at HO_14
      (try simp only [hl14_80])
      (try simp only [hl14_80] at BK691)
      (try simp only [hl14_80] at BK708)
      (try simp only [hl14_80] at HO_709001)
      cases kq with
      | zero => exact absurd HA.out (by simp [laws_FnExactBestAnswer.j2])
      | succ kj80 =>
       have H := HA.out
       clear HA
       simp only [laws_FnExactBestAnswer.j2] at H
       by_cases c97 : x118_80 = true
       ·subst c97
        have H1 : (some false) = some r := by rw [if_pos rfl] at H;exact H
        clear H
        have H := H1
        clear H1
        obtain rfl := Option.some.inj H
        go_wp2
        go_ret
        exact ⟨eW, by exact bB⟩
       replace c97 := Bool.eq_false_iff.mpr c97
       subst c97
       have H1 : ((laws_heldIntS.f kj80 t732 1).bind fun t746 => (if t746 < 0 then (some false) else (if t746 = t731 then (some true) else (some false)))) = some r := by rw [if_neg (show ¬ (false = true) by decide)] at H;exact H
       clear H
       have H := H1
       clear H1
       replace H := Option.bind_eq_some_iff.mp H
       obtain ⟨t746, A980, H⟩ := H
       replace H : (if t746 < 0 then (some false) else (if t746 = t731 then (some true) else (some false))) = some r := H
       have A98 := Aside0.mk A980
       clear A980
       by_cases c99 : t746 < 0
       ·rw [if_pos c99] at H
        have c99b0 : decide (t746 < 0) = true := decide_eq_true c99
        clear c99
        obtain rfl := Option.some.inj H
        go_wp2_with (first | ((with_reducible refine gate_callee (f := 23) rfl ?_);refine goesL_ (some 121) rfl rfl Tryd.func23 (by kernel_rfl) rfl #[.slice Ao82 t732.length co82, .int .i64 1] rfl mM ?_;(with_reducible refine (laws_heldIntS.calls kj80 _ _ t732 1 t746 _ ?side1 ?side2 A98.out).mono ?_);(case side1 => exact cP (Kd.R_reads' HO_14.out).2.2);(case side2 => exact (Kd.R_reads' HO_14.out).2.1);rintro e w' ⟨rfl, ⟨nd, rfl⟩⟩;refine ⟨_, rfl, ?_⟩))
        go_ret
        exact ⟨eW, by exact bB⟩
       rw [if_neg c99] at H
       have c99b0 : decide (t746 < 0) = false := decide_eq_false c99
       clear c99
       by_cases c100 : t746 = t731
       rotate_left
       ·rw [if_neg c100] at H
        have c100b0 : (t746 == t731) = false := beq_eq_false_iff_ne.mpr c100
        have c100b1 : (t746 != t731) = true := bne_iff_ne.mpr c100
        obtain rfl := Option.some.inj H
        go_wp2_with (first | ((with_reducible refine gate_callee (f := 23) rfl ?_);refine goesL_ (some 121) rfl rfl Tryd.func23 (by kernel_rfl) rfl #[.slice Ao82 t732.length co82, .int .i64 1] rfl mM ?_;(with_reducible refine (laws_heldIntS.calls kj80 _ _ t732 1 t746 _ ?side1 ?side2 A98.out).mono ?_);(case side1 => exact cP (Kd.R_reads' HO_14.out).2.2);(case side2 => exact (Kd.R_reads' HO_14.out).2.1);rintro e w' ⟨rfl, ⟨nd, rfl⟩⟩;refine ⟨_, rfl, ?_⟩))
        go_ret
        exact ⟨eW, by exact bB⟩
       rw [if_pos c100] at H
       have c100b0 : (t746 == t731) = true := beq_iff_eq.mpr c100
       have c100b1 : (t746 != t731) = false := bne_eq_false_iff_eq.mpr c100
       clear c100
       obtain rfl := Option.some.inj H
       go_wp2_with (first | ((with_reducible refine gate_callee (f := 23) rfl ?_);refine goesL_ (some 121) rfl rfl Tryd.func23 (by kernel_rfl) rfl #[.slice Ao82 t732.length co82, .int .i64 1] rfl mM ?_;(with_reducible refine (laws_heldIntS.calls kj80 _ _ t732 1 t746 _ ?side1 ?side2 A98.out).mono ?_);(case side1 => exact cP (Kd.R_reads' HO_14.out).2.2);(case side2 => exact (Kd.R_reads' HO_14.out).2.1);rintro e w' ⟨rfl, ⟨nd, rfl⟩⟩;refine ⟨_, rfl, ?_⟩))
       go_ret
       exact ⟨eW, by exact bB⟩


end Go.Proofs.YtgahlimikndecaaDoor.QBestAnswer
