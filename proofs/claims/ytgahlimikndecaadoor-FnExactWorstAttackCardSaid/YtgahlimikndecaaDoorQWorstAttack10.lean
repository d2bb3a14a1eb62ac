import Derived.Test.YtgahlimikndecaaDoorQWorstAttack0
import Derived.Test.YtgahlimikndecaaDoorQWorstAttack5
import Derived.Test.YtgahlimikndecaaDoorQWorstAttack9
namespace Go.Proofs.YtgahlimikndecaaDoor.QWorstAttack
open Go.RowKit Go.Proofs.YtgahlimikndecaaDoorW.PrintWords Go.Proofs.YtgahlimikndecaaDoorW.PrintLast Go.Proofs.YtgahlimikndecaaDoorW.PrintMore
attribute [local go_sem] max2_int min2_int max_two min_two max_three min_three max_four min_four   -- for this text's walks alone
set_option linter.unusedVariables false
set_option linter.unusedSimpArgs false
set_option maxRecDepth 100000
set_option maxHeartbeats 8000000
/-! ### laws_FnExactWorstAttack: function 4 -/
def laws_FnExactWorstAttack.j0 : Nat → List Int → List Int → Bool → Int → List (S78) → Int → List (S78) → Option (Bool)
 | 0, _, _, _, _, _, _, _ => none
 | k + 1, x1, x11, x49, x683000, x683001, x698000, x698001 => if x49 = true then (some false) else ((laws_toGraph.f k x683000 x683001).bind fun bt703 => ((laws_eqGraph.f k x698000 x698001 bt703.1 bt703.2).bind fun t707 => (if t707 = true then ((laws_toIntS.f k x1).bind fun t708 => ((laws_eqIntS.f k x11 t708).bind fun t711 => (if t711 = true then (some true) else (some false)))) else (some false))))
def laws_FnExactWorstAttack.f (k : Nat) (a0_0 : Int) (l0_1 : List (S78)) (l1 : List Int) (a2 : Bool) : Option (Bool) := if (l1.length : Int) > 1048576 then (some true) else ((laws_szGraph.f a0_0 l0_1 1048576).bind fun t683 => (if t683 < 0 then (some true) else ((laws_toGraph.f k a0_0 l0_1).bind fun bt684 => ((laws_toIntS.f k l1).bind fun t688 => ((spec_WorstAttack.f k bt684.1 bt684.2 t688 a2).bind fun bt691 => ((laws_toGraph.f k a0_0 l0_1).bind fun bt693 => ((laws_toIntS.f k l1).bind fun t698 => ((impl_WorstAttack.f k bt693.1 bt693.2 t698 a2).bind fun bt701 => (if bt701.1 = bt691.1 then (laws_FnExactWorstAttack.j0 k l1 t698 (bt701.2 != bt691.2) a0_0 l0_1 bt693.1 bt693.2) else (laws_FnExactWorstAttack.j0 k l1 t698 true a0_0 l0_1 bt693.1 bt693.2))))))))))
theorem laws_FnExactWorstAttack.mono_l : ∀ k, (∀ y0 y1 y2 y3 y4 y5 y6, LeO (laws_FnExactWorstAttack.j0 k y0 y1 y2 y3 y4 y5 y6) (laws_FnExactWorstAttack.j0 (k + 1) y0 y1 y2 y3 y4 y5 y6))
 | 0 => fun _ _ _ _ _ _ _ r h => by simp [laws_FnExactWorstAttack.j0] at h
 | k + 1 => by
  have ih0 := laws_FnExactWorstAttack.mono_l k
  ·intro y0 y1 y2 y3 y4 y5 y6
   unfold laws_FnExactWorstAttack.j0
   repeat' first
   | (with_reducible exact ih0 _ _ _ _ _ _ _)
   | (with_reducible exact impl_WorstAttack.mono _ _ _ _ _)
   | (with_reducible exact laws_eqGraph.mono _ _ _ _ _)
   | (with_reducible exact laws_eqIntS.mono _ _ _)
   | (with_reducible exact laws_toGraph.mono _ _ _)
   | (with_reducible exact laws_toIntS.mono _ _)
   | (with_reducible exact spec_WorstAttack.mono _ _ _ _ _)
   | (with_reducible exact LeO.refl _)
   | (with_reducible exact LeO.none _)
   | (with_reducible refine LeO.ite ?_ ?_)
   | (with_reducible refine LeO.bind ?_ (fun _ => ?_))
   | exact LeO.none _
   | refine LeO.ite ?_ ?_
   | refine LeO.bind ?_ (fun _ => ?_)
theorem laws_FnExactWorstAttack.mono : ∀ a0 a1 a2 a3 k, LeO (laws_FnExactWorstAttack.f k a0 a1 a2 a3) (laws_FnExactWorstAttack.f (k + 1) a0 a1 a2 a3) := by
 intro a0 a1 a2 a3 k
 have ih0 := laws_FnExactWorstAttack.mono_l k
 unfold laws_FnExactWorstAttack.f
 repeat' first
   | (with_reducible exact ih0 _ _ _ _ _ _ _)
   | (with_reducible exact impl_WorstAttack.mono _ _ _ _ _)
   | (with_reducible exact laws_eqGraph.mono _ _ _ _ _)
   | (with_reducible exact laws_eqIntS.mono _ _ _)
   | (with_reducible exact laws_toGraph.mono _ _ _)
   | (with_reducible exact laws_toIntS.mono _ _)
   | (with_reducible exact spec_WorstAttack.mono _ _ _ _ _)
   | (with_reducible exact LeO.refl _)
   | (with_reducible exact LeO.none _)
   | (with_reducible refine LeO.ite ?_ ?_)
   | (with_reducible refine LeO.bind ?_ (fun _ => ?_))
   | exact LeO.none _
   | refine LeO.ite ?_ ?_
   | refine LeO.bind ?_ (fun _ => ?_)
theorem laws_FnExactWorstAttack.calls (k : Nat) (a0_0 : Int) (A0_1 : Option Addr) (c0_1 : Nat) (l0_1 : List (S78)) (A1 : Option Addr) (c1 : Nat) (l1 : List Int) (a2 : Bool) (r : Bool) (w : World) (hT : TabG w) (hr0_1 : Kd.C k78 w A0_1 l0_1.length l0_1) (hc0_1 : l0_1.length ≤ c0_1) (hr1 : Kd.C (Kd.int .i64) w A1 l1.length l1) (hc1 : l1.length ≤ c1) (h : laws_FnExactWorstAttack.f k a0_0 l0_1 l1 a2 = some r) :
  Calls Tryd.prog 4 #[.agg #[.int .i64 a0_0, .slice A0_1 l0_1.length c0_1], .slice A1 l1.length c1, .bool a2] w fun e w' => e = .returned (.bool r) ∧ Below w.heap.size w w' := by
 have hu24 := Tryd.underlying24
 have hu29 := Tryd.underlying29
 have HR0_1 := Aside0.mk hr0_1
 have HC0_1 := Aside0.mk hc0_1
 clear hr0_1 hc0_1
 have HR1 := Aside0.mk hr1
 have HC1 := Aside0.mk hc1
 clear hr1 hc1
 have HB := aM (Below.refl w.heap.size w)
 have HT := Aside0.mk hT
 clear hT
 have H : (if (l1.length : Int) > 1048576 then (some true) else ((laws_szGraph.f a0_0 l0_1 1048576).bind fun t683 => (if t683 < 0 then (some true) else ((laws_toGraph.f k a0_0 l0_1).bind fun bt684 => ((laws_toIntS.f k l1).bind fun t688 => ((spec_WorstAttack.f k bt684.1 bt684.2 t688 a2).bind fun bt691 => ((laws_toGraph.f k a0_0 l0_1).bind fun bt693 => ((laws_toIntS.f k l1).bind fun t698 => ((impl_WorstAttack.f k bt693.1 bt693.2 t698 a2).bind fun bt701 => (if bt701.1 = bt691.1 then (laws_FnExactWorstAttack.j0 k l1 t698 (bt701.2 != bt691.2) a0_0 l0_1 bt693.1 bt693.2) else (laws_FnExactWorstAttack.j0 k l1 t698 true a0_0 l0_1 bt693.1 bt693.2))))))))))) = some r := h
 clear h
 by_cases c4 : (l1.length : Int) > 1048576
 ·rw [if_pos c4] at H
  have c4b0 : decide (1048576 < (l1.length : Int)) = true := decide_eq_true c4
  have c4b1 : decide (1048576 < l1.length) = true := decide_eq_true (by omega)
  clear c4
  obtain rfl := Option.some.inj H
  go_enter Tryd.func4, Tryd.ntmps4
  go_wp2_with (first | ((with_reducible refine gate_dst (N := 3) rfl ?_);refine box_event ?hg (N := 3) ?hd (cs := #[.int .i64 a0_0, .slice A0_1 l0_1.length c0_1]) (t := 24) ?hr ?_;(case hd => rfl);(case hg => rfl);(case hr => exact gS);intro gb682 hg w5 hbox hb;have n0_ := aM (below_step (by exact bB) hb);have n1_ := aM (hbox);have n2_ := aM (sW hg : w.heap.size ≤ gb682);have n3_ := aM (sW hg : w.heap.size ≤ gb682);clear HB;have HB := n0_;have BK682 := n1_;have GW682 := n2_;have GE682 := n3_;clear n0_ n1_ n2_ n3_;clear hb hbox hg))
  go_ret
  exact ⟨eW, by exact bB⟩
 rw [if_neg c4] at H
 have c4b0 : decide (1048576 < (l1.length : Int)) = false := decide_eq_false c4
 have c4b1 : decide (1048576 < l1.length) = false := decide_eq_false (by omega)
 clear c4
 replace H := Option.bind_eq_some_iff.mp H
 obtain ⟨t683, A60, H⟩ := H
 replace H : (if t683 < 0 then (some true) else ((laws_toGraph.f k a0_0 l0_1).bind fun bt684 => ((laws_toIntS.f k l1).bind fun t688 => ((spec_WorstAttack.f k bt684.1 bt684.2 t688 a2).bind fun bt691 => ((laws_toGraph.f k a0_0 l0_1).bind fun bt693 => ((laws_toIntS.f k l1).bind fun t698 => ((impl_WorstAttack.f k bt693.1 bt693.2 t698 a2).bind fun bt701 => (if bt701.1 = bt691.1 then (laws_FnExactWorstAttack.j0 k l1 t698 (bt701.2 != bt691.2) a0_0 l0_1 bt693.1 bt693.2) else (laws_FnExactWorstAttack.j0 k l1 t698 true a0_0 l0_1 bt693.1 bt693.2))))))))) = some r := H
 have A6 := Aside0.mk A60
 clear A60
 by_cases c7 : t683 < 0
 ·rw [if_pos c7] at H
  have c7b0 : decide (t683 < 0) = true := decide_eq_true c7
  clear c7
  obtain rfl := Option.some.inj H
  go_enter Tryd.func4, Tryd.ntmps4
  go_wp2_with (first | ((with_reducible refine gate_dst (N := 3) rfl ?_);refine box_event ?hg (N := 3) ?hd (cs := #[.int .i64 a0_0, .slice A0_1 l0_1.length c0_1]) (t := 24) ?hr ?_;(case hd => rfl);(case hg => rfl);(case hr => exact gS);intro gb682 hg w8 hbox hb;have n0_ := aM (below_step (by exact bB) hb);have n1_ := aM (hbox);have n2_ := aM (sW hg : w.heap.size ≤ gb682);have n3_ := aM (sW hg : w.heap.size ≤ gb682);clear HB;have HB := n0_;have BK682 := n1_;have GW682 := n2_;have GE682 := n3_;clear n0_ n1_ n2_ n3_;clear hb hbox hg;have hcz9_0 := bC0 BK682.out;have hcz9_1 := bC1 BK682.out;have hfz9_0 := blk_frozen BK682.out 0;have hfz9_1 := blk_frozen BK682.out 1) | ((with_reducible refine gate_callee (f := 7) rfl ?_);refine goesL_ (some 19) rfl rfl Tryd.func7 (by kernel_rfl) rfl #[.agg #[.int .i64 a0_0, .slice A0_1 l0_1.length c0_1], .int .i64 1048576] rfl mM ?_;(with_reducible refine (laws_szGraph.calls a0_0 _ _ l0_1 1048576 t683 _ ?side1 ?side2 A6.out).mono ?_);(case side1 => exact cP (Kd.C_below HR0_1.out HB.out));(case side2 => exact HC0_1.out);rintro e w10 ⟨rfl, hb⟩;refine ⟨_, rfl, ?_⟩;have n0_ := aM (kB hb BK682.out);have n1_ := aM (below_step (by exact bB) hb);clear BK682;clear HB;have BK682 := n0_;have HB := n1_;clear n0_ n1_;(try clear hb)))
  go_ret
  exact ⟨eW, by exact bB⟩
 rw [if_neg c7] at H
 have c7b0 : decide (t683 < 0) = false := decide_eq_false c7
 clear c7
 replace H := Option.bind_eq_some_iff.mp H
 obtain ⟨⟨t684, t685⟩, A110, H⟩ := H
 replace H : ((laws_toIntS.f k l1).bind fun t688 => ((spec_WorstAttack.f k t684 t685 t688 a2).bind fun bt691 => ((laws_toGraph.f k a0_0 l0_1).bind fun bt693 => ((laws_toIntS.f k l1).bind fun t698 => ((impl_WorstAttack.f k bt693.1 bt693.2 t698 a2).bind fun bt701 => (if bt701.1 = bt691.1 then (laws_FnExactWorstAttack.j0 k l1 t698 (bt701.2 != bt691.2) a0_0 l0_1 bt693.1 bt693.2) else (laws_FnExactWorstAttack.j0 k l1 t698 true a0_0 l0_1 bt693.1 bt693.2))))))) = some r := H
 have A11 := Aside0.mk A110
 clear A110
 replace H := Option.bind_eq_some_iff.mp H
 obtain ⟨t688, A120, H⟩ := H
 replace H : ((spec_WorstAttack.f k t684 t685 t688 a2).bind fun bt691 => ((laws_toGraph.f k a0_0 l0_1).bind fun bt693 => ((laws_toIntS.f k l1).bind fun t698 => ((impl_WorstAttack.f k bt693.1 bt693.2 t698 a2).bind fun bt701 => (if bt701.1 = bt691.1 then (laws_FnExactWorstAttack.j0 k l1 t698 (bt701.2 != bt691.2) a0_0 l0_1 bt693.1 bt693.2) else (laws_FnExactWorstAttack.j0 k l1 t698 true a0_0 l0_1 bt693.1 bt693.2)))))) = some r := H
 have A12 := Aside0.mk A120
 clear A120
 replace H := Option.bind_eq_some_iff.mp H
 obtain ⟨⟨t691, t692⟩, A130, H⟩ := H
 replace H : ((laws_toGraph.f k a0_0 l0_1).bind fun bt693 => ((laws_toIntS.f k l1).bind fun t698 => ((impl_WorstAttack.f k bt693.1 bt693.2 t698 a2).bind fun bt701 => (if bt701.1 = t691 then (laws_FnExactWorstAttack.j0 k l1 t698 (bt701.2 != t692) a0_0 l0_1 bt693.1 bt693.2) else (laws_FnExactWorstAttack.j0 k l1 t698 true a0_0 l0_1 bt693.1 bt693.2))))) = some r := H
 have A13 := Aside0.mk A130
 clear A130
 replace H := Option.bind_eq_some_iff.mp H
 obtain ⟨⟨t693, t694⟩, A140, H⟩ := H
 replace H : ((laws_toIntS.f k l1).bind fun t698 => ((impl_WorstAttack.f k t693 t694 t698 a2).bind fun bt701 => (if bt701.1 = t691 then (laws_FnExactWorstAttack.j0 k l1 t698 (bt701.2 != t692) a0_0 l0_1 t693 t694) else (laws_FnExactWorstAttack.j0 k l1 t698 true a0_0 l0_1 t693 t694)))) = some r := H
 have A14 := Aside0.mk A140
 clear A140
 replace H := Option.bind_eq_some_iff.mp H
 obtain ⟨t698, A150, H⟩ := H
 replace H : ((impl_WorstAttack.f k t693 t694 t698 a2).bind fun bt701 => (if bt701.1 = t691 then (laws_FnExactWorstAttack.j0 k l1 t698 (bt701.2 != t692) a0_0 l0_1 t693 t694) else (laws_FnExactWorstAttack.j0 k l1 t698 true a0_0 l0_1 t693 t694))) = some r := H
 have A15 := Aside0.mk A150
 clear A150
 replace H := Option.bind_eq_some_iff.mp H
 obtain ⟨⟨t701, t702⟩, A160, H⟩ := H
 replace H : (if t701 = t691 then (laws_FnExactWorstAttack.j0 k l1 t698 (t702 != t692) a0_0 l0_1 t693 t694) else (laws_FnExactWorstAttack.j0 k l1 t698 true a0_0 l0_1 t693 t694)) = some r := H
 have A16 := Aside0.mk A160
 clear A160
 have HC17 := Aside0.mk H
 clear H
 go_enter Tryd.func4, Tryd.ntmps4
 go_upto_region 11 with (first | ((with_reducible refine gate_dst (N := 3) rfl ?_);refine box_event ?hg (N := 3) ?hd (cs := #[.int .i64 a0_0, .slice A0_1 l0_1.length c0_1]) (t := 24) ?hr ?_;(case hd => rfl);(case hg => rfl);(case hr => exact gS);intro gb682 hg w18 hbox hb;have n0_ := aM (below_step (by exact bB) hb);have n1_ := aM (hbox);have n2_ := aM (sW hg : w.heap.size ≤ gb682);have n3_ := aM (sW hg : w.heap.size ≤ gb682);clear HB;have HB := n0_;have BK682 := n1_;have GW682 := n2_;have GE682 := n3_;clear n0_ n1_ n2_ n3_;clear hb hbox hg;have hcz19_0 := bC0 BK682.out;have hcz19_1 := bC1 BK682.out;have hfz19_0 := blk_frozen BK682.out 0;have hfz19_1 := blk_frozen BK682.out 1) | ((with_reducible refine gate_callee (f := 7) rfl ?_);refine goesL_ (some 19) rfl rfl Tryd.func7 (by kernel_rfl) rfl #[.agg #[.int .i64 a0_0, .slice A0_1 l0_1.length c0_1], .int .i64 1048576] rfl mM ?_;(with_reducible refine (laws_szGraph.calls a0_0 _ _ l0_1 1048576 t683 _ ?side1 ?side2 A6.out).mono ?_);(case side1 => exact cP (Kd.C_below HR0_1.out HB.out));(case side2 => exact HC0_1.out);rintro e w20 ⟨rfl, hb⟩;refine ⟨_, rfl, ?_⟩;have n0_ := aM (kB hb BK682.out);have n1_ := aM (below_step (by exact bB) hb);clear BK682;clear HB;have BK682 := n0_;have HB := n1_;clear n0_ n1_;(try clear hb);have hcz21_0 := bC0 BK682.out;have hcz21_1 := bC1 BK682.out;have hfz21_0 := blk_frozen BK682.out 0;have hfz21_1 := blk_frozen BK682.out 1) | ((with_reducible refine gate_callee (f := 9) rfl ?_);refine goesL_ (some 24) rfl rfl Tryd.func9 (by kernel_rfl) rfl #[.agg #[.int .i64 a0_0, .slice A0_1 l0_1.length c0_1]] rfl mM ?_;(with_reducible refine (laws_toGraph.calls k a0_0 _ _ l0_1 t684 t685 _ ?side1 ?side2 A11.out).mono ?_);(case side1 => exact cP (Kd.C_below HR0_1.out HB.out));(case side2 => exact HC0_1.out);rintro e w22 ⟨v686, rfl, ho0, hb⟩;refine ⟨_, rfl, ?_⟩;have n0_ := aM (Kd.R_lower ho0 (below_size (by exact bB)));have n1_ := aM (kB hb BK682.out);have n2_ := aM (below_step (by exact bB) hb);clear BK682;clear HB;have HO687 := n0_;have BK682 := n1_;have HB := n2_;clear n0_ n1_ n2_;(try clear hb);(try clear ho0)) | ((with_reducible refine gate_callee (f := 17) rfl ?_);refine goesL_ (some 26) rfl rfl Tryd.func17 (by kernel_rfl) rfl #[.slice A1 l1.length c1] rfl mM ?_;(with_reducible refine (laws_toIntS.calls k _ _ l1 t688 _ ?side1 ?side2 A12.out).mono ?_);(case side1 => exact cP (Kd.C_below HR1.out HB.out));(case side2 => exact HC1.out);rintro e w23 ⟨v689, rfl, ho0, hb⟩;refine ⟨_, rfl, ?_⟩;have n0_ := aM (Kd.R_below (by exact rP HO687.out) hb);have n1_ := aM (Kd.R_lower ho0 (below_size (by exact bB)));have n2_ := aM (kB hb BK682.out);have n3_ := aM (below_step (by exact bB) hb);clear HO687;clear BK682;clear HB;have HO687 := n0_;have HO690 := n1_;have BK682 := n2_;have HB := n3_;clear n0_ n1_ n2_ n3_;(try clear hb);(try clear ho0);obtain ⟨Ao24, co24, eo24⟩ := Kd.R_slice HO687.out;subst eo24;obtain ⟨Ao25, co25, eo25⟩ := Kd.R_slice HO690.out;subst eo25) | ((with_reducible refine gate_callee (f := 16) rfl ?_);refine goesL_ (some 28) rfl rfl Tryd.func16 (by kernel_rfl) rfl #[.agg #[.int .i64 t684, .slice Ao24 t685.length co24], .slice Ao25 t688.length co25, .bool a2] rfl mM ?_;(with_reducible refine (spec_WorstAttack.calls k t684 _ _ t685 _ _ t688 a2 t691 t692 _ ?side1 ?side2 ?side3 ?side4 A13.out).mono ?_);(case side1 => exact cP (Kd.R_reads' HO687.out).2.2);(case side2 => exact (Kd.R_reads' HO687.out).2.1);(case side3 => exact cP (Kd.R_reads' HO690.out).2.2);(case side4 => exact (Kd.R_reads' HO690.out).2.1);rintro e w26 ⟨rfl, hb⟩;refine ⟨_, rfl, ?_⟩;have n0_ := aM (Kd.R_below (by exact rP HO687.out) hb);have n1_ := aM (Kd.R_below (by exact rP HO690.out) hb);have n2_ := aM (kB hb BK682.out);have n3_ := aM (below_step (by exact bB) hb);clear HO687;clear HO690;clear BK682;clear HB;have HO687 := n0_;have HO690 := n1_;have BK682 := n2_;have HB := n3_;clear n0_ n1_ n2_ n3_;(try clear hb);have hcz27_0 := bC0 BK682.out;have hcz27_1 := bC1 BK682.out;have hfz27_0 := blk_frozen BK682.out 0;have hfz27_1 := blk_frozen BK682.out 1) | ((with_reducible refine gate_callee (f := 9) rfl ?_);refine goesL_ (some 32) rfl rfl Tryd.func9 (by kernel_rfl) rfl #[.agg #[.int .i64 a0_0, .slice A0_1 l0_1.length c0_1]] rfl mM ?_;(with_reducible refine (laws_toGraph.calls k a0_0 _ _ l0_1 t693 t694 _ ?side1 ?side2 A14.out).mono ?_);(case side1 => exact cP (Kd.C_below HR0_1.out HB.out));(case side2 => exact HC0_1.out);rintro e w28 ⟨v695, rfl, ho0, hb⟩;refine ⟨_, rfl, ?_⟩;have n0_ := aM (Kd.R_elder' (by exact rP HO687.out) (Kd.R_base ho0) hb);have n1_ := aM (Kd.R_below (by exact rP HO690.out) hb);have n2_ := aM (Kd.R_lower (Kd.R_new' ho0 (Kd.R_lt (by exact rP HO687.out))) (below_size (by exact bB)));have n3_ := aM (kB hb BK682.out);have n4_ := aM (below_step (by exact bB) hb);clear HO687;clear HO690;clear BK682;clear HB;have HO687 := n0_;have HO690 := n1_;have HO696 := n2_;have BK682 := n3_;have HB := n4_;clear n0_ n1_ n2_ n3_ n4_;(try clear hb);(try clear ho0)) | ((with_reducible refine gate_dst (N := 10) rfl ?_);refine box_event ?hg (N := 10) ?hd (cs := #[.int .i64 0, .slice none 0 0]) (t := 29) ?hr ?_;(case hd => rfl);(case hg => rfl);(case hr => exact gS);intro gb697 hg w29 hbox hb;have n0_ := aM (Kd.R_below (by exact rP HO687.out) hb);have n1_ := aM (Kd.R_below (by exact rP HO690.out) hb);have n2_ := aM (Kd.R_below (by exact rP HO696.out) hb);have n3_ := aM (kB hb BK682.out);have n4_ := aM (below_step (by exact bB) hb);have n5_ := aM (hbox);have n6_ := aM (sW hg : w.heap.size ≤ gb697);have n7_ := aM (sW hg : w.heap.size ≤ gb697);have n8_ := aM (nL hg (kP BK682.out));have n9_ := aM (nG hg (kP BK682.out));clear HO687;clear HO690;clear HO696;clear BK682;clear HB;have HO687 := n0_;have HO690 := n1_;have HO696 := n2_;have BK682 := n3_;have HB := n4_;have BK697 := n5_;have GW697 := n6_;have GE697 := n7_;have NB682_697 := n8_;have NB697_682 := n9_;clear n0_ n1_ n2_ n3_ n4_ n5_ n6_ n7_ n8_ n9_;clear hb hbox hg;have hnb30 := NB697_682.out;have hnc30 := NB682_697.out;have hcz31_0 := bC0 BK697.out;have hcz31_1 := bC1 BK697.out;have hfz31_0 := blk_frozen BK697.out 0;have hfz31_1 := blk_frozen BK697.out 1;obtain ⟨Ao32, co32, eo32⟩ := Kd.R_slice HO696.out;subst eo32) | ((with_reducible refine gate_callee (f := 17) rfl ?_);refine goesL_ (some 34) rfl rfl Tryd.func17 (by kernel_rfl) rfl #[.slice A1 l1.length c1] rfl mM ?_;(with_reducible refine (laws_toIntS.calls k _ _ l1 t698 _ ?side1 ?side2 A15.out).mono ?_);(case side1 => exact Kd.C_below HR1.out (by exact bB));(case side2 => exact HC1.out);rintro e w33 ⟨v699, rfl, ho0, hb⟩;refine ⟨_, rfl, ?_⟩;have n0_ := aM (Kd.R_below (by exact rP ((Kd.R_mono (Kd.R_far (p := ⟨gb697, 1, none⟩) (Kd.R_far (p := ⟨gb697, 0, none⟩) (Kd.R_types HO687.out BK697.out (by decide)) (fun _ hk => hk.2) (.int .i64 t693)) (fun _ hk => hk.2) (.slice Ao32 t694.length co32)) (fun _ h_ => h_.1)))) hb);have n1_ := aM (Kd.R_elder' (by exact rP ((Kd.R_mono (Kd.R_far (p := ⟨gb697, 1, none⟩) (Kd.R_far (p := ⟨gb697, 0, none⟩) (Kd.R_types HO690.out BK697.out (by decide)) (fun _ hk => hk.2) (.int .i64 t693)) (fun _ hk => hk.2) (.slice Ao32 t694.length co32)) (fun _ h_ => h_.1)))) (Kd.R_base ho0) hb);have n2_ := aM (Kd.R_below (by exact rP ((Kd.R_mono (Kd.R_far (p := ⟨gb697, 1, none⟩) (Kd.R_far (p := ⟨gb697, 0, none⟩) (Kd.R_types HO696.out BK697.out (by decide)) (fun _ hk => hk.2) (.int .i64 t693)) (fun _ hk => hk.2) (.slice Ao32 t694.length co32)) (fun _ h_ => h_.1)))) hb);have n3_ := aM (Kd.R_lower (Kd.R_new' ho0 (Kd.R_lt (by exact rP ((Kd.R_mono (Kd.R_far (p := ⟨gb697, 1, none⟩) (Kd.R_far (p := ⟨gb697, 0, none⟩) (Kd.R_types HO690.out BK697.out (by decide)) (fun _ hk => hk.2) (.int .i64 t693)) (fun _ hk => hk.2) (.slice Ao32 t694.length co32)) (fun _ h_ => h_.1)))))) (below_size (by exact bB)));have n4_ := aM (blk_below (g := gb682) (o := .cells #[.int .i64 a0_0, .slice A0_1 l0_1.length c0_1] 24 (0, 0)) (by refine kP ?_;refine blk_far ?_ NB682_697.out _;refine kP ?_;refine blk_far ?_ NB682_697.out _;exact kP BK682.out) hb);have n5_ := aM (blk_below (g := gb697) (o := .cells #[.int .i64 t693, .slice Ao32 t694.length co32] 29 (0, 0)) (by refine kP ?_;refine blk_put (cs := #[.int .i64 t693, .slice none 0 0]) ?_ 1 _ rfl;refine kP ?_;refine blk_put (cs := #[.int .i64 0, .slice none 0 0]) ?_ 0 _ rfl;exact kP BK697.out) hb);have n6_ := aM (below_step (by exact bB) hb);clear HO687;clear HO690;clear HO696;clear BK682;clear BK697;clear HB;have HO687 := n0_;have HO690 := n1_;have HO696 := n2_;have HO700 := n3_;have BK682 := n4_;have BK697 := n5_;have HB := n6_;clear n0_ n1_ n2_ n3_ n4_ n5_ n6_;(try clear hb);(try clear ho0);have hcz34_0 := bC0 BK697.out;have hcz34_1 := bC1 BK697.out;have hfz34_0 := blk_frozen BK697.out 0;have hfz34_1 := blk_frozen BK697.out 1;obtain ⟨Ao35, co35, eo35⟩ := Kd.R_slice HO700.out;subst eo35) | ((with_reducible refine gate_callee (f := 18) rfl ?_);refine goesL_ (some 39) rfl rfl Tryd.func18 (by kernel_rfl) rfl #[.agg #[.int .i64 t693, .slice Ao32 t694.length co32], .slice Ao35 t698.length co35, .bool a2] rfl mM ?_;(with_reducible refine (impl_WorstAttack.calls k t693 _ _ t694 _ _ t698 a2 t701 t702 _ ?sideT ?side1 ?side2 ?side3 ?side4 A16.out).mono ?_);(case sideT => exact tabG_below HT.out (by exact bB));(case side1 => exact cP (Kd.R_reads' HO696.out).2.2);(case side2 => exact (Kd.R_reads' HO696.out).2.1);(case side3 => exact cP (Kd.R_reads' HO700.out).2.2);(case side4 => exact (Kd.R_reads' HO700.out).2.1);rintro e w36 ⟨rfl, hb⟩;refine ⟨_, rfl, ?_⟩;have n0_ := aM (Kd.R_below (by exact rP HO687.out) hb);have n1_ := aM (Kd.R_below (by exact rP HO690.out) hb);have n2_ := aM (Kd.R_below (by exact rP HO696.out) hb);have n3_ := aM (Kd.R_below (by exact rP HO700.out) hb);have n4_ := aM (kB hb BK682.out);have n5_ := aM (kB hb BK697.out);have n6_ := aM (below_step (by exact bB) hb);clear HO687;clear HO690;clear HO696;clear HO700;clear BK682;clear BK697;clear HB;have HO687 := n0_;have HO690 := n1_;have HO696 := n2_;have HO700 := n3_;have BK682 := n4_;have BK697 := n5_;have HB := n6_;clear n0_ n1_ n2_ n3_ n4_ n5_ n6_;(try clear hb)))
 (try simp only [Act.put, List.setIfInBounds_toArray, List.set_cons_zero, List.set_cons_succ])
 go_cut [49] (fun v49 wc => ∃ (kq : Nat) (x49_16 : Bool), v49 = .bool x49_16 ∧ Aside0 (laws_FnExactWorstAttack.j0 kq l1 t698 x49_16 a0_0 l0_1 t693 t694 = some r) ∧ Aside0 (kq ≤ k) ∧ Aside0 (Kd.R (Kd.int .i64) 3 wc w.heap.size (fun _ => True) (.slice Ao35 t698.length co35) t698) ∧ Aside0 (Kd.R k78 78 wc w.heap.size (fun _ => True) (.slice Ao32 t694.length co32) t694) ∧ Aside0 (wc.heap[gb682]? = some (.cells #[.int .i64 a0_0, (.slice A0_1 l0_1.length c0_1)] 24 (0, 0))) ∧ Aside0 (wc.heap[gb697]? = some (.cells #[.int .i64 t693, (.slice Ao32 t694.length co32)] 29 (0, 0))) ∧ Aside0 (Below w.heap.size w wc))
 case first =>
  have H := HC17.out
  clear HC17
  by_cases c37 : t701 = t691
  rotate_left
  ·rw [if_neg c37] at H
   have c37b0 : (t701 == t691) = false := beq_eq_false_iff_ne.mpr c37
   have c37b1 : (t701 != t691) = true := bne_iff_ne.mpr c37
   (first | rw [c37b0] | (simp only [i64_w, i32_w];rw [c37b0]) | skip)
   have H' := Aside0.mk H
   clear H
   go_wp2
   go_meet
   case rel => exact ⟨_, (true), eF, H', ⟨by first | omega | exact Nat.le_refl _⟩, ⟨by refine rP ?_;exact Kd.R_mono HO700.out (fun _ hk => trivial)⟩, ⟨by refine rP ?_;exact Kd.R_mono HO696.out (fun _ hk => trivial)⟩, ⟨by exact kP BK682.out⟩, ⟨by exact kP BK697.out⟩, ⟨by exact bB⟩⟩
  rw [if_pos c37] at H
  have c37b0 : (t701 == t691) = true := beq_iff_eq.mpr c37
  have c37b1 : (t701 != t691) = false := bne_eq_false_iff_eq.mpr c37
  clear c37
  (first | rw [c37b0] | (simp only [i64_w, i32_w];rw [c37b0]) | skip)
  have H' := Aside0.mk H
  clear H
  go_wp2
  go_meet
  case rel => exact ⟨_, ((t702 != t692)), eF, H', ⟨by first | omega | exact Nat.le_refl _⟩, ⟨by refine rP ?_;exact Kd.R_mono HO700.out (fun _ hk => trivial)⟩, ⟨by refine rP ?_;exact Kd.R_mono HO696.out (fun _ hk => trivial)⟩, ⟨by exact kP BK682.out⟩, ⟨by exact kP BK697.out⟩, ⟨by exact bB⟩⟩
 case rest =>
  clear HC17
  try clear c1
  try clear p2
  try clear c3
  try clear c4
  try clear c4b0
  try clear c4b1
  try clear c7
  try clear c7b0
  try clear c9
  try clear c16
  try clear c17
  try clear c18
  try clear c30
  try clear c37
  try clear c37b0
  try clear c37b1
  try clear hcz19_0
  try clear hcz19_1
  try clear hcz21_0
  try clear hcz21_1
  try clear hcz27_0
  try clear hcz27_1
  try clear hcz31_0
  try clear hcz31_1
  try clear hcz34_0
  try clear hcz34_1
  try clear hcz9_0
  try clear hcz9_1
  try clear hfz19_0
  try clear hfz19_1
  try clear hfz21_0
  try clear hfz21_1
  try clear hfz27_0
  try clear hfz27_1
  try clear hfz31_0
  try clear hfz31_1
  try clear hfz34_0
  try clear hfz34_1
  try clear hfz9_0
  try clear hfz9_1
  obtain ⟨kq, x49_16, rfl, HA, HJ16, HO_11, HO_698001, BK682, BK697, HB⟩ := hcut
  cases kq with
  | zero => exact absurd HA.out (by simp [laws_FnExactWorstAttack.j0])
  | succ kj16 =>
   have H := HA.out
   clear HA
   simp only [laws_FnExactWorstAttack.j0] at H
   by_cases c38 : x49_16 = true
   ·subst c38
    have H1 : (some false) = some r := by rw [if_pos rfl] at H;exact H
    clear H
    have H := H1
    clear H1
    obtain rfl := Option.some.inj H
    go_wp2
    go_ret
    exact ⟨eW, by exact bB⟩
   replace c38 := Bool.eq_false_iff.mpr c38
   subst c38
   have H1 : ((laws_toGraph.f kj16 a0_0 l0_1).bind fun bt703 => ((laws_eqGraph.f kj16 t693 t694 bt703.1 bt703.2).bind fun t707 => (if t707 = true then ((laws_toIntS.f kj16 l1).bind fun t708 => ((laws_eqIntS.f kj16 t698 t708).bind fun t711 => (if t711 = true then (some true) else (some false)))) else (some false)))) = some r := by rw [if_neg (show ¬ (false = true) by decide)] at H;exact H
   clear H
   have H := H1
   clear H1
   replace H := Option.bind_eq_some_iff.mp H
   obtain ⟨⟨t703, t704⟩, A390, H⟩ := H
   replace H : ((laws_eqGraph.f kj16 t693 t694 t703 t704).bind fun t707 => (if t707 = true then ((laws_toIntS.f kj16 l1).bind fun t708 => ((laws_eqIntS.f kj16 t698 t708).bind fun t711 => (if t711 = true then (some true) else (some false)))) else (some false))) = some r := H
   have A39 := Aside0.mk A390
   clear A390
   replace H := Option.bind_eq_some_iff.mp H
   obtain ⟨t707, A400, H⟩ := H
   replace H : (if t707 = true then ((laws_toIntS.f kj16 l1).bind fun t708 => ((laws_eqIntS.f kj16 t698 t708).bind fun t711 => (if t711 = true then (some true) else (some false)))) else (some false)) = some r := H
   have A40 := Aside0.mk A400
   clear A400
   by_cases c41 : t707 = true
   rotate_left
   ·replace c41 := Bool.eq_false_iff.mpr c41
    subst c41
    have H1 : (some false) = some r := by rw [if_neg (show ¬ (false = true) by decide)] at H;exact H
    clear H
    have H := H1
    clear H1
    obtain rfl := Option.some.inj H
    try go_wp2
    have n0_ := aM (Kd.R_drew HO_11.out)
    have n1_ := aM (Kd.R_drew HO_698001.out)
    have n2_ := aM (blk_drew BK682.out)
    have n3_ := aM (blk_drew BK697.out)
    have n4_ := aM (below_drew1 HB.out)
    clear HO_11
    clear HO_698001
    clear BK682
    clear BK697
    clear HB
    have HO_11 := n0_
    have HO_698001 := n1_
    have BK682 := n2_
    have BK697 := n3_
    have HB := n4_
    clear n0_ n1_ n2_ n3_ n4_
    refine start_ (n := 5) (S := fun w' => w'.cell? ⟨gb697, 0, none⟩ = some (.int .i64 t693) ∧ w'.cell? ⟨gb697, 1, none⟩ = some (.slice Ao32 t694.length co32) ∧ w'.cell? ⟨gb682, 0, none⟩ = some (.int .i64 a0_0) ∧ w'.cell? ⟨gb682, 1, none⟩ = some (.slice A0_1 l0_1.length c0_1)) (ds := []) (pT 0 5) (by kernel_rfl) rfl rfl ⟨(blk_cell BK697.out 0).trans rfl, (blk_cell BK697.out 1).trans rfl, (blk_cell BK682.out 0).trans rfl, (blk_cell BK682.out 1).trans rfl⟩ (fun hHeld => ?_)
    generalize wc.drew = w57 at HO_11 HO_698001 BK682 BK697 HB hHeld ⊢
    refine take_ (i := 0) (N := some 50) (v := ?_) (a' := ?_) (pT 1 4) rfl rfl (by kernel_rfl) (fun _ _ _ h => h) (Or.inl ⟨by rfl, ?_⟩) hHeld ?_ ?_
    rotate_left
    ·rintro w' ⟨s0, s1, s2, s3⟩
     go_simp
     with_reducible rfl
    rotate_left
    ·exact aP
    refine take_ (i := 1) (N := some 51) (v := ?_) (a' := ?_) (pT 2 3) rfl rfl (by kernel_rfl) (fun _ _ _ h => h) (Or.inl ⟨by rfl, ?_⟩) hHeld ?_ ?_
    rotate_left
    ·rintro w' ⟨s0, s1, s2, s3⟩
     go_simp
     with_reducible rfl
    rotate_left
    ·exact aP
    refine one_ (i := 2) (N := some 52) (pT 3 2) rfl rfl (by kernel_rfl) (by decide) (fun K hK => ?_)
    refine goes_ Tryd.func9 (by kernel_rfl) rfl #[.agg #[.int .i64 a0_0, .slice A0_1 l0_1.length c0_1]] (by rfl) rfl rfl mM ?_
    with_reducible refine (laws_toGraph.calls kj16 a0_0 _ _ l0_1 t703 t704 _ ?side1 ?side2 A39.out).mono ?_
    (case side1 => exact cP (Kd.C_below HR0_1.out HB.out))
    (case side2 => exact HC0_1.out)
    rintro e w58 ⟨v705, rfl, ho0, hb⟩
    refine ⟨_, rfl, ?_⟩
    have n0_ := aM (Kd.R_below (by exact rP HO_11.out) hb)
    have n1_ := aM (Kd.R_elder' (by exact rP HO_698001.out) (Kd.R_base ho0) hb)
    have n2_ := aM (Kd.R_lower (Kd.R_new' ho0 (Kd.R_lt (by exact rP HO_698001.out))) (below_size (by exact bB)))
    have n3_ := aM (kB hb BK682.out)
    have n4_ := aM (kB hb BK697.out)
    have n5_ := aM (below_step (by exact bB) hb)
    clear HO_11
    clear HO_698001
    clear BK682
    clear BK697
    clear HB
    have HO_11 := n0_
    have HO_698001 := n1_
    have HO706 := n2_
    have BK682 := n3_
    have BK697 := n4_
    have HB := n5_
    clear n0_ n1_ n2_ n3_ n4_ n5_
    (try clear hb)
    (try clear hb2)
    (try clear hk)
    (try clear hi)
    (try clear ho0)
    obtain ⟨Ao59, co59, eo59⟩ := Kd.R_slice HO706.out
    (first | subst eo59 | (injection eo59 with f1_ f2_ f3_;have f4_ := f1_.symm;have f5_ := f3_.symm;clear f1_ f2_ f3_;subst f4_;subst f5_))
    refine hK.out _ _ ⟨(blk_cell BK697.out 0).trans rfl, (blk_cell BK697.out 1).trans rfl, (blk_cell BK682.out 0).trans rfl, (blk_cell BK682.out 1).trans rfl⟩ (fun hHeld => ?_)
    clear hK K
    refine norm_ (a' := ?_) ?_ ?_
    rotate_left
    ·show Act.put _ (some 52) _ = _
     simp only [Act.put, List.setIfInBounds_toArray, List.set_cons_zero, List.set_cons_succ, i64_w, i32_w]
     rfl
    refine one_ (i := 3) (N := some 53) (pT 4 1) rfl rfl (by kernel_rfl) (by decide) (fun K hK => ?_)
    refine goes_ Tryd.func12 (by kernel_rfl) rfl #[.agg #[.int .i64 t693, .slice Ao32 t694.length co32], .agg #[.int .i64 t703, .slice Ao59 t704.length co59]] (by rfl) rfl rfl mM ?_
    with_reducible refine (laws_eqGraph.calls kj16 t693 _ _ t694 t703 _ _ t704 false _ ?side1 ?side2 ?side3 ?side4 A40.out).mono ?_
    (case side1 => exact cP (Kd.R_reads' HO_698001.out).2.2)
    (case side2 => exact (Kd.R_reads' HO_698001.out).2.1)
    (case side3 => exact cP (Kd.R_reads' HO706.out).2.2)
    (case side4 => exact (Kd.R_reads' HO706.out).2.1)
    rintro e w60 ⟨rfl, hb⟩
    refine ⟨_, rfl, ?_⟩
    have n0_ := aM (Kd.R_below (by exact rP HO_11.out) hb)
    have n1_ := aM (Kd.R_below (by exact rP HO_698001.out) hb)
    have n2_ := aM (Kd.R_below (by exact rP HO706.out) hb)
    have n3_ := aM (kB hb BK682.out)
    have n4_ := aM (kB hb BK697.out)
    have n5_ := aM (below_step (by exact bB) hb)
    clear HO_11
    clear HO_698001
    clear HO706
    clear BK682
    clear BK697
    clear HB
    have HO_11 := n0_
    have HO_698001 := n1_
    have HO706 := n2_
    have BK682 := n3_
    have BK697 := n4_
    have HB := n5_
    clear n0_ n1_ n2_ n3_ n4_ n5_
    (try clear hb)
    (try clear hb2)
    (try clear hk)
    (try clear hi)
    refine hK.out _ _ ⟨(blk_cell BK697.out 0).trans rfl, (blk_cell BK697.out 1).trans rfl, (blk_cell BK682.out 0).trans rfl, (blk_cell BK682.out 1).trans rfl⟩ (fun hHeld => ?_)
    clear hK K
    refine norm_ (a' := ?_) ?_ ?_
    rotate_left
    ·show Act.put _ (some 53) _ = _
     simp only [Act.put, List.setIfInBounds_toArray, List.set_cons_zero, List.set_cons_succ, i64_w, i32_w]
     rfl
    refine pure_ (i := 4) (N := some 54) (v := ?_) (a' := ?_) (pT 5 0) rfl rfl (by kernel_rfl) (fun _ _ _ h => h) (Or.inl ⟨by rfl, ?_⟩) ?_ ?_
    rotate_left
    ·intro w'
     go_simp
     with_reducible rfl
    rotate_left
    ·exact aP
    refine done_ (by kernel_rfl) ?_
    try go_wp2
    go_ret
    exact ⟨eW, by exact bB⟩
   subst c41
   have H1 : ((laws_toIntS.f kj16 l1).bind fun t708 => ((laws_eqIntS.f kj16 t698 t708).bind fun t711 => (if t711 = true then (some true) else (some false)))) = some r := by rw [if_pos rfl] at H;exact H
   clear H
   have H := H1
   clear H1
   replace H := Option.bind_eq_some_iff.mp H
   obtain ⟨t708, A420, H⟩ := H
   replace H : ((laws_eqIntS.f kj16 t698 t708).bind fun t711 => (if t711 = true then (some true) else (some false))) = some r := H
   have A42 := Aside0.mk A420
   clear A420
   replace H := Option.bind_eq_some_iff.mp H
   obtain ⟨t711, A430, H⟩ := H
   replace H : (if t711 = true then (some true) else (some false)) = some r := H
   have A43 := Aside0.mk A430
   clear A430
   by_cases c44 : t711 = true
   ·subst c44
    have H1 : (some true) = some r := by rw [if_pos rfl] at H;exact H
    clear H
    have H := H1
    clear H1
    obtain rfl := Option.some.inj H
    try go_wp2
    have n0_ := aM (Kd.R_drew HO_11.out)
    have n1_ := aM (Kd.R_drew HO_698001.out)
    have n2_ := aM (blk_drew BK682.out)
    have n3_ := aM (blk_drew BK697.out)
    have n4_ := aM (below_drew1 HB.out)
    clear HO_11
    clear HO_698001
    clear BK682
    clear BK697
    clear HB
    have HO_11 := n0_
    have HO_698001 := n1_
    have BK682 := n2_
    have BK697 := n3_
    have HB := n4_
    clear n0_ n1_ n2_ n3_ n4_
    refine start_ (n := 5) (S := fun w' => w'.cell? ⟨gb697, 0, none⟩ = some (.int .i64 t693) ∧ w'.cell? ⟨gb697, 1, none⟩ = some (.slice Ao32 t694.length co32) ∧ w'.cell? ⟨gb682, 0, none⟩ = some (.int .i64 a0_0) ∧ w'.cell? ⟨gb682, 1, none⟩ = some (.slice A0_1 l0_1.length c0_1)) (ds := []) (pT 0 5) (by kernel_rfl) rfl rfl ⟨(blk_cell BK697.out 0).trans rfl, (blk_cell BK697.out 1).trans rfl, (blk_cell BK682.out 0).trans rfl, (blk_cell BK682.out 1).trans rfl⟩ (fun hHeld => ?_)
    generalize wc.drew = w45 at HO_11 HO_698001 BK682 BK697 HB hHeld ⊢
    refine take_ (i := 0) (N := some 50) (v := ?_) (a' := ?_) (pT 1 4) rfl rfl (by kernel_rfl) (fun _ _ _ h => h) (Or.inl ⟨by rfl, ?_⟩) hHeld ?_ ?_
    rotate_left
    ·rintro w' ⟨s0, s1, s2, s3⟩
     go_simp
     with_reducible rfl
    rotate_left
    ·exact aP
    refine take_ (i := 1) (N := some 51) (v := ?_) (a' := ?_) (pT 2 3) rfl rfl (by kernel_rfl) (fun _ _ _ h => h) (Or.inl ⟨by rfl, ?_⟩) hHeld ?_ ?_
    rotate_left
    ·rintro w' ⟨s0, s1, s2, s3⟩
     go_simp
     with_reducible rfl
    rotate_left
    ·exact aP
    refine one_ (i := 2) (N := some 52) (pT 3 2) rfl rfl (by kernel_rfl) (by decide) (fun K hK => ?_)
    refine goes_ Tryd.func9 (by kernel_rfl) rfl #[.agg #[.int .i64 a0_0, .slice A0_1 l0_1.length c0_1]] (by rfl) rfl rfl mM ?_
    with_reducible refine (laws_toGraph.calls kj16 a0_0 _ _ l0_1 t703 t704 _ ?side1 ?side2 A39.out).mono ?_
    (case side1 => exact cP (Kd.C_below HR0_1.out HB.out))
    (case side2 => exact HC0_1.out)
    rintro e w46 ⟨v705, rfl, ho0, hb⟩
    refine ⟨_, rfl, ?_⟩
    have n0_ := aM (Kd.R_below (by exact rP HO_11.out) hb)
    have n1_ := aM (Kd.R_elder' (by exact rP HO_698001.out) (Kd.R_base ho0) hb)
    have n2_ := aM (Kd.R_lower (Kd.R_new' ho0 (Kd.R_lt (by exact rP HO_698001.out))) (below_size (by exact bB)))
    have n3_ := aM (kB hb BK682.out)
    have n4_ := aM (kB hb BK697.out)
    have n5_ := aM (below_step (by exact bB) hb)
    clear HO_11
    clear HO_698001
    clear BK682
    clear BK697
    clear HB
    have HO_11 := n0_
    have HO_698001 := n1_
    have HO706 := n2_
    have BK682 := n3_
    have BK697 := n4_
    have HB := n5_
    clear n0_ n1_ n2_ n3_ n4_ n5_
    (try clear hb)
    (try clear hb2)
    (try clear hk)
    (try clear hi)
    (try clear ho0)
    obtain ⟨Ao47, co47, eo47⟩ := Kd.R_slice HO706.out
    (first | subst eo47 | (injection eo47 with f1_ f2_ f3_;have f4_ := f1_.symm;have f5_ := f3_.symm;clear f1_ f2_ f3_;subst f4_;subst f5_))
    refine hK.out _ _ ⟨(blk_cell BK697.out 0).trans rfl, (blk_cell BK697.out 1).trans rfl, (blk_cell BK682.out 0).trans rfl, (blk_cell BK682.out 1).trans rfl⟩ (fun hHeld => ?_)
    clear hK K
    refine norm_ (a' := ?_) ?_ ?_
    rotate_left
    ·show Act.put _ (some 52) _ = _
     simp only [Act.put, List.setIfInBounds_toArray, List.set_cons_zero, List.set_cons_succ, i64_w, i32_w]
     rfl
    refine one_ (i := 3) (N := some 53) (pT 4 1) rfl rfl (by kernel_rfl) (by decide) (fun K hK => ?_)
    refine goes_ Tryd.func12 (by kernel_rfl) rfl #[.agg #[.int .i64 t693, .slice Ao32 t694.length co32], .agg #[.int .i64 t703, .slice Ao47 t704.length co47]] (by rfl) rfl rfl mM ?_
    with_reducible refine (laws_eqGraph.calls kj16 t693 _ _ t694 t703 _ _ t704 true _ ?side1 ?side2 ?side3 ?side4 A40.out).mono ?_
    (case side1 => exact cP (Kd.R_reads' HO_698001.out).2.2)
    (case side2 => exact (Kd.R_reads' HO_698001.out).2.1)
    (case side3 => exact cP (Kd.R_reads' HO706.out).2.2)
    (case side4 => exact (Kd.R_reads' HO706.out).2.1)
    rintro e w48 ⟨rfl, hb⟩
    refine ⟨_, rfl, ?_⟩
    have n0_ := aM (Kd.R_below (by exact rP HO_11.out) hb)
    have n1_ := aM (Kd.R_below (by exact rP HO_698001.out) hb)
    have n2_ := aM (Kd.R_below (by exact rP HO706.out) hb)
    have n3_ := aM (kB hb BK682.out)
    have n4_ := aM (kB hb BK697.out)
    have n5_ := aM (below_step (by exact bB) hb)
    clear HO_11
    clear HO_698001
    clear HO706
    clear BK682
    clear BK697
    clear HB
    have HO_11 := n0_
    have HO_698001 := n1_
    have HO706 := n2_
    have BK682 := n3_
    have BK697 := n4_
    have HB := n5_
    clear n0_ n1_ n2_ n3_ n4_ n5_
    (try clear hb)
    (try clear hb2)
    (try clear hk)
    (try clear hi)
    refine hK.out _ _ ⟨(blk_cell BK697.out 0).trans rfl, (blk_cell BK697.out 1).trans rfl, (blk_cell BK682.out 0).trans rfl, (blk_cell BK682.out 1).trans rfl⟩ (fun hHeld => ?_)
    clear hK K
    refine norm_ (a' := ?_) ?_ ?_
    rotate_left
    ·show Act.put _ (some 53) _ = _
     simp only [Act.put, List.setIfInBounds_toArray, List.set_cons_zero, List.set_cons_succ, i64_w, i32_w]
     rfl
    refine pure_ (i := 4) (N := some 54) (v := ?_) (a' := ?_) (pT 5 0) rfl rfl (by kernel_rfl) (fun _ _ _ h => h) (Or.inl ⟨by rfl, ?_⟩) ?_ ?_
    rotate_left
    ·intro w'
     go_simp
     with_reducible rfl
    rotate_left
    ·exact aP
    refine done_ (by kernel_rfl) ?_
    try go_wp2_with (first | ((with_reducible refine gate_callee (f := 17) rfl ?_);refine goesL_ (some 57) rfl rfl Tryd.func17 (by kernel_rfl) rfl #[.slice A1 l1.length c1] rfl mM ?_;(with_reducible refine (laws_toIntS.calls kj16 _ _ l1 t708 _ ?side1 ?side2 A42.out).mono ?_);(case side1 => exact cP (Kd.C_below HR1.out HB.out));(case side2 => exact HC1.out);rintro e w49 ⟨v709, rfl, ho0, hb⟩;refine ⟨_, rfl, ?_⟩;have n0_ := aM (Kd.R_elder' (by exact rP HO_11.out) (Kd.R_base ho0) hb);have n1_ := aM (Kd.R_below (by exact rP HO_698001.out) hb);have n2_ := aM (Kd.R_below (by exact rP HO706.out) hb);have n3_ := aM (Kd.R_lower (Kd.R_new' ho0 (Kd.R_lt (by exact rP HO_11.out))) (below_size (by exact bB)));have n4_ := aM (kB hb BK682.out);have n5_ := aM (kB hb BK697.out);have n6_ := aM (below_step (by exact bB) hb);clear HO_11;clear HO_698001;clear HO706;clear BK682;clear BK697;clear HB;have HO_11 := n0_;have HO_698001 := n1_;have HO706 := n2_;have HO710 := n3_;have BK682 := n4_;have BK697 := n5_;have HB := n6_;clear n0_ n1_ n2_ n3_ n4_ n5_ n6_;(try clear hb);(try clear ho0);obtain ⟨Ao50, co50, eo50⟩ := Kd.R_slice HO710.out;subst eo50) | ((with_reducible refine gate_callee (f := 19) rfl ?_);refine goesL_ (some 58) rfl rfl Tryd.func19 (by kernel_rfl) rfl #[.slice Ao35 t698.length co35, .slice Ao50 t708.length co50] rfl mM ?_;(with_reducible refine (laws_eqIntS.calls kj16 _ _ t698 _ _ t708 true _ ?side1 ?side2 ?side3 ?side4 A43.out).mono ?_);(case side1 => exact cP (Kd.R_reads' HO_11.out).2.2);(case side2 => exact (Kd.R_reads' HO_11.out).2.1);(case side3 => exact cP (Kd.R_reads' HO710.out).2.2);(case side4 => exact (Kd.R_reads' HO710.out).2.1);rintro e w' ⟨rfl, ⟨nd, rfl⟩⟩;refine ⟨_, rfl, ?_⟩))
    go_ret
    exact ⟨eW, by exact bB⟩
   replace c44 := Bool.eq_false_iff.mpr c44
   subst c44
   have H1 : (some false) = some r := by rw [if_neg (show ¬ (false = true) by decide)] at H;exact H
   clear H
   have H := H1
   clear H1
   obtain rfl := Option.some.inj H
   try go_wp2
   have n0_ := aM (Kd.R_drew HO_11.out)
   have n1_ := aM (Kd.R_drew HO_698001.out)
   have n2_ := aM (blk_drew BK682.out)
   have n3_ := aM (blk_drew BK697.out)
   have n4_ := aM (below_drew1 HB.out)
   clear HO_11
   clear HO_698001
   clear BK682
   clear BK697
   clear HB
   have HO_11 := n0_
   have HO_698001 := n1_
   have BK682 := n2_
   have BK697 := n3_
   have HB := n4_
   clear n0_ n1_ n2_ n3_ n4_
   refine start_ (n := 5) (S := fun w' => w'.cell? ⟨gb697, 0, none⟩ = some (.int .i64 t693) ∧ w'.cell? ⟨gb697, 1, none⟩ = some (.slice Ao32 t694.length co32) ∧ w'.cell? ⟨gb682, 0, none⟩ = some (.int .i64 a0_0) ∧ w'.cell? ⟨gb682, 1, none⟩ = some (.slice A0_1 l0_1.length c0_1)) (ds := []) (pT 0 5) (by kernel_rfl) rfl rfl ⟨(blk_cell BK697.out 0).trans rfl, (blk_cell BK697.out 1).trans rfl, (blk_cell BK682.out 0).trans rfl, (blk_cell BK682.out 1).trans rfl⟩ (fun hHeld => ?_)
   generalize wc.drew = w51 at HO_11 HO_698001 BK682 BK697 HB hHeld ⊢
   refine take_ (i := 0) (N := some 50) (v := ?_) (a' := ?_) (pT 1 4) rfl rfl (by kernel_rfl) (fun _ _ _ h => h) (Or.inl ⟨by rfl, ?_⟩) hHeld ?_ ?_
   rotate_left
   ·rintro w' ⟨s0, s1, s2, s3⟩
    go_simp
    with_reducible rfl
   rotate_left
   ·exact aP
   refine take_ (i := 1) (N := some 51) (v := ?_) (a' := ?_) (pT 2 3) rfl rfl (by kernel_rfl) (fun _ _ _ h => h) (Or.inl ⟨by rfl, ?_⟩) hHeld ?_ ?_
   rotate_left
   ·rintro w' ⟨s0, s1, s2, s3⟩
    go_simp
    with_reducible rfl
   rotate_left
   ·exact aP
   refine one_ (i := 2) (N := some 52) (pT 3 2) rfl rfl (by kernel_rfl) (by decide) (fun K hK => ?_)
   refine goes_ Tryd.func9 (by kernel_rfl) rfl #[.agg #[.int .i64 a0_0, .slice A0_1 l0_1.length c0_1]] (by rfl) rfl rfl mM ?_
   with_reducible refine (laws_toGraph.calls kj16 a0_0 _ _ l0_1 t703 t704 _ ?side1 ?side2 A39.out).mono ?_
   (case side1 => exact cP (Kd.C_below HR0_1.out HB.out))
   (case side2 => exact HC0_1.out)
   rintro e w52 ⟨v705, rfl, ho0, hb⟩
   refine ⟨_, rfl, ?_⟩
   have n0_ := aM (Kd.R_below (by exact rP HO_11.out) hb)
   have n1_ := aM (Kd.R_elder' (by exact rP HO_698001.out) (Kd.R_base ho0) hb)
   have n2_ := aM (Kd.R_lower (Kd.R_new' ho0 (Kd.R_lt (by exact rP HO_698001.out))) (below_size (by exact bB)))
   have n3_ := aM (kB hb BK682.out)
   have n4_ := aM (kB hb BK697.out)
   have n5_ := aM (below_step (by exact bB) hb)
   clear HO_11
   clear HO_698001
   clear BK682
   clear BK697
   clear HB
   have HO_11 := n0_
   have HO_698001 := n1_
   have HO706 := n2_
   have BK682 := n3_
   have BK697 := n4_
   have HB := n5_
   clear n0_ n1_ n2_ n3_ n4_ n5_
   (try clear hb)
   (try clear hb2)
   (try clear hk)
   (try clear hi)
   (try clear ho0)
   obtain ⟨Ao53, co53, eo53⟩ := Kd.R_slice HO706.out
   (first | subst eo53 | (injection eo53 with f1_ f2_ f3_;have f4_ := f1_.symm;have f5_ := f3_.symm;clear f1_ f2_ f3_;subst f4_;subst f5_))
   refine hK.out _ _ ⟨(blk_cell BK697.out 0).trans rfl, (blk_cell BK697.out 1).trans rfl, (blk_cell BK682.out 0).trans rfl, (blk_cell BK682.out 1).trans rfl⟩ (fun hHeld => ?_)
   clear hK K
   refine norm_ (a' := ?_) ?_ ?_
   rotate_left
   ·show Act.put _ (some 52) _ = _
    simp only [Act.put, List.setIfInBounds_toArray, List.set_cons_zero, List.set_cons_succ, i64_w, i32_w]
    rfl
   refine one_ (i := 3) (N := some 53) (pT 4 1) rfl rfl (by kernel_rfl) (by decide) (fun K hK => ?_)
   refine goes_ Tryd.func12 (by kernel_rfl) rfl #[.agg #[.int .i64 t693, .slice Ao32 t694.length co32], .agg #[.int .i64 t703, .slice Ao53 t704.length co53]] (by rfl) rfl rfl mM ?_
   with_reducible refine (laws_eqGraph.calls kj16 t693 _ _ t694 t703 _ _ t704 true _ ?side1 ?side2 ?side3 ?side4 A40.out).mono ?_
   (case side1 => exact cP (Kd.R_reads' HO_698001.out).2.2)
   (case side2 => exact (Kd.R_reads' HO_698001.out).2.1)
   (case side3 => exact cP (Kd.R_reads' HO706.out).2.2)
   (case side4 => exact (Kd.R_reads' HO706.out).2.1)
   rintro e w54 ⟨rfl, hb⟩
   refine ⟨_, rfl, ?_⟩
   have n0_ := aM (Kd.R_below (by exact rP HO_11.out) hb)
   have n1_ := aM (Kd.R_below (by exact rP HO_698001.out) hb)
   have n2_ := aM (Kd.R_below (by exact rP HO706.out) hb)
   have n3_ := aM (kB hb BK682.out)
   have n4_ := aM (kB hb BK697.out)
   have n5_ := aM (below_step (by exact bB) hb)
   clear HO_11
   clear HO_698001
   clear HO706
   clear BK682
   clear BK697
   clear HB
   have HO_11 := n0_
   have HO_698001 := n1_
   have HO706 := n2_
   have BK682 := n3_
   have BK697 := n4_
   have HB := n5_
   clear n0_ n1_ n2_ n3_ n4_ n5_
   (try clear hb)
   (try clear hb2)
   (try clear hk)
   (try clear hi)
   refine hK.out _ _ ⟨(blk_cell BK697.out 0).trans rfl, (blk_cell BK697.out 1).trans rfl, (blk_cell BK682.out 0).trans rfl, (blk_cell BK682.out 1).trans rfl⟩ (fun hHeld => ?_)
   clear hK K
   refine norm_ (a' := ?_) ?_ ?_
   rotate_left
   ·show Act.put _ (some 53) _ = _
    simp only [Act.put, List.setIfInBounds_toArray, List.set_cons_zero, List.set_cons_succ, i64_w, i32_w]
    rfl
   refine pure_ (i := 4) (N := some 54) (v := ?_) (a' := ?_) (pT 5 0) rfl rfl (by kernel_rfl) (fun _ _ _ h => h) (Or.inl ⟨by rfl, ?_⟩) ?_ ?_
   rotate_left
   ·intro w'
    go_simp
    with_reducible rfl
   rotate_left
   ·exact aP
   refine done_ (by kernel_rfl) ?_
   try go_wp2_with (first | ((with_reducible refine gate_callee (f := 17) rfl ?_);refine goesL_ (some 57) rfl rfl Tryd.func17 (by kernel_rfl) rfl #[.slice A1 l1.length c1] rfl mM ?_;(with_reducible refine (laws_toIntS.calls kj16 _ _ l1 t708 _ ?side1 ?side2 A42.out).mono ?_);(case side1 => exact cP (Kd.C_below HR1.out HB.out));(case side2 => exact HC1.out);rintro e w55 ⟨v709, rfl, ho0, hb⟩;refine ⟨_, rfl, ?_⟩;have n0_ := aM (Kd.R_elder' (by exact rP HO_11.out) (Kd.R_base ho0) hb);have n1_ := aM (Kd.R_below (by exact rP HO_698001.out) hb);have n2_ := aM (Kd.R_below (by exact rP HO706.out) hb);have n3_ := aM (Kd.R_lower (Kd.R_new' ho0 (Kd.R_lt (by exact rP HO_11.out))) (below_size (by exact bB)));have n4_ := aM (kB hb BK682.out);have n5_ := aM (kB hb BK697.out);have n6_ := aM (below_step (by exact bB) hb);clear HO_11;clear HO_698001;clear HO706;clear BK682;clear BK697;clear HB;have HO_11 := n0_;have HO_698001 := n1_;have HO706 := n2_;have HO710 := n3_;have BK682 := n4_;have BK697 := n5_;have HB := n6_;clear n0_ n1_ n2_ n3_ n4_ n5_ n6_;(try clear hb);(try clear ho0);obtain ⟨Ao56, co56, eo56⟩ := Kd.R_slice HO710.out;subst eo56) | ((with_reducible refine gate_callee (f := 19) rfl ?_);refine goesL_ (some 58) rfl rfl Tryd.func19 (by kernel_rfl) rfl #[.slice Ao35 t698.length co35, .slice Ao56 t708.length co56] rfl mM ?_;(with_reducible refine (laws_eqIntS.calls kj16 _ _ t698 _ _ t708 false _ ?side1 ?side2 ?side3 ?side4 A43.out).mono ?_);(case side1 => exact cP (Kd.R_reads' HO_11.out).2.2);(case side2 => exact (Kd.R_reads' HO_11.out).2.1);(case side3 => exact cP (Kd.R_reads' HO710.out).2.2);(case side4 => exact (Kd.R_reads' HO710.out).2.1);rintro e w' ⟨rfl, ⟨nd, rfl⟩⟩;refine ⟨_, rfl, ?_⟩))
   go_ret
   exact ⟨eW, by exact bB⟩


end Go.Proofs.YtgahlimikndecaaDoor.QWorstAttack
