import Derived.Test.YtgahlimikndecaaDoorQEternalFamily0
namespace Go.Proofs.YtgahlimikndecaaDoor.QEternalFamily
open Go.RowKit Go.Proofs.YtgahlimikndecaaDoorW.PrintWords Go.Proofs.YtgahlimikndecaaDoorW.PrintLast Go.Proofs.YtgahlimikndecaaDoorW.PrintMore
attribute [local go_sem] max2_int min2_int max_two min_two max_three min_three max_four min_four   -- for this text's walks alone
set_option linter.unusedVariables false
set_option linter.unusedSimpArgs false
set_option maxRecDepth 100000
set_option maxHeartbeats 8000000
/-! ### spec_l2Near: function 103 -/
def spec_l2Near.l0 : Nat → Int → Int → Int → Int → List (S78) → Option (Bool)
 | 0, _, _, _, _, _ => none
 | k + 1, x1, x2, x7, x158000, x158001 => if x7 < (x158001.length : Int) then (if 0 ≤ x7 then (if ((rd_T78 x158001 x7).f0) = x1 then (if ((rd_T78 x158001 x7).f1) = x2 then (some true) else (if ((rd_T78 x158001 x7).f0) = x2 then (if ((rd_T78 x158001 x7).f1) = x1 then (some true) else (spec_l2Near.l0 k x1 x2 (wrap64 (x7 + 1)) x158000 x158001)) else (spec_l2Near.l0 k x1 x2 (wrap64 (x7 + 1)) x158000 x158001))) else (if ((rd_T78 x158001 x7).f0) = x2 then (if ((rd_T78 x158001 x7).f1) = x1 then (some true) else (spec_l2Near.l0 k x1 x2 (wrap64 (x7 + 1)) x158000 x158001)) else (spec_l2Near.l0 k x1 x2 (wrap64 (x7 + 1)) x158000 x158001))) else (none)) else (some false)
def spec_l2Near.f (k : Nat) (a0_0 : Int) (l0_1 : List (S78)) (a1 : Int) (a2 : Int) : Option (Bool) := spec_l2Near.l0 k a1 a2 0 a0_0 l0_1
theorem spec_l2Near.mono_l : ∀ k, (∀ y0 y1 y2 y3 y4, LeO (spec_l2Near.l0 k y0 y1 y2 y3 y4) (spec_l2Near.l0 (k + 1) y0 y1 y2 y3 y4))
 | 0 => fun _ _ _ _ _ r h => by simp [spec_l2Near.l0] at h
 | k + 1 => by
  have ih0 := spec_l2Near.mono_l k
  ·intro y0 y1 y2 y3 y4
   unfold spec_l2Near.l0
   exact lM
theorem spec_l2Near.mono : ∀ a0 a1 a2 a3 k, LeO (spec_l2Near.f k a0 a1 a2 a3) (spec_l2Near.f (k + 1) a0 a1 a2 a3) := by
 intro a0 a1 a2 a3 k
 have ih0 := spec_l2Near.mono_l k
 unfold spec_l2Near.f
 exact lM
theorem spec_l2Near.calls (k : Nat) (a0_0 : Int) (A0_1 : Option Addr) (c0_1 : Nat) (l0_1 : List (S78)) (a1 : Int) (a2 : Int) (r : Bool) (w : World) (hr0_1 : Kd.C k78 w A0_1 l0_1.length l0_1) (hc0_1 : l0_1.length ≤ c0_1) (h : spec_l2Near.f k a0_0 l0_1 a1 a2 = some r) :
  Calls Tryd.prog 103 #[.agg #[.int .i64 a0_0, .slice A0_1 l0_1.length c0_1], .int .i64 a1, .int .i64 a2] w fun e w' => e = .returned (.bool r) ∧ Below w.heap.size w w' := by
 have hu29 := Tryd.underlying29
 have hu78 := Tryd.underlying78
 have HR0_1 := Aside0.mk hr0_1
 have HC0_1 := Aside0.mk hc0_1
 clear hr0_1 hc0_1
 have HB := aM (Below.refl w.heap.size w)
 have H : (spec_l2Near.l0 k a1 a2 0 a0_0 l0_1) = some r := h
 clear h
 have H' := Aside0.mk H
 clear H
 go_enter Tryd.func103, Tryd.ntmps103
 go_wp2_with (first | ((with_reducible refine gate_dst (N := 3) rfl ?_);refine box_event ?hg (N := 3) ?hd (cs := #[.int .i64 a0_0, .slice A0_1 l0_1.length c0_1]) (t := 29) ?hr ?_;(case hd => rfl);(case hg => rfl);(case hr => exact gS);intro gb157 hg w4 hbox hb;have n0_ := aM (below_step (by exact bB) hb);have n1_ := aM (hbox);have n2_ := aM (sW hg : w.heap.size ≤ gb157);have n3_ := aM (sW hg : w.heap.size ≤ gb157);clear HB;have HB := n0_;have BK157 := n1_;have GW157 := n2_;have GE157 := n3_;clear n0_ n1_ n2_ n3_;clear hb hbox hg))
 go_loopg [7] k (fun kq v7 w' => ∃ (x7_1 : Int), v7 = .int .i64 x7_1 ∧ Aside0 (spec_l2Near.l0 kq a1 a2 x7_1 a0_0 l0_1 = some r) ∧ Aside0 (kq ≤ k) ∧ Aside0 (w'.heap[gb157]? = some (.cells #[.int .i64 a0_0, (.slice A0_1 l0_1.length c0_1)] 29 (0, 0))) ∧ Aside0 (Below w.heap.size w w'))
 case atStart => exact ⟨(0), eF, H', ⟨Nat.le_refl _⟩, ⟨by exact kP BK157.out⟩, ⟨by exact bB⟩⟩
 case round =>
  clear H'
  try clear c1
  try clear p2
  obtain ⟨x7_1, rfl, HA, HK1, BK157, HB⟩ := hrel
  cases gk with
  | zero => exact absurd HA.out (by simp [spec_l2Near.l0])
  | succ k1 =>
   have H := HA.out
   clear HA
   simp only [spec_l2Near.l0] at H
   by_cases c5 : x7_1 < (l0_1.length : Int)
   rotate_left
   ·rw [if_neg c5] at H
    have c5b0 : decide (x7_1 < (l0_1.length : Int)) = false := decide_eq_false c5
    clear c5
    obtain rfl := Option.some.inj H
    have hcz41_0 := bC0 BK157.out
    have hcz41_1 := bC1 BK157.out
    have hfz41_0 := blk_frozen BK157.out 0
    have hfz41_1 := blk_frozen BK157.out 1
    go_wp2
    go_ret
    exact ⟨eW, by exact bB⟩
   rw [if_pos c5] at H
   have c5b0 : decide (x7_1 < (l0_1.length : Int)) = true := decide_eq_true c5
   clear c5
   by_cases c6 : 0 ≤ x7_1
   rotate_left
   ·rw [if_neg c6] at H
    exact absurd H (by simp)
   rw [if_pos c6] at H
   have c6b0 : decide (0 ≤ x7_1) = true := decide_eq_true c6
   clear c6
   by_cases c7 : ((rd_T78 l0_1 x7_1).f0) = a1
   rotate_left
   ·rw [if_neg c7] at H
    have c7b0 : (((rd_T78 l0_1 x7_1).f0) == a1) = false := beq_eq_false_iff_ne.mpr c7
    have c7b1 : (((rd_T78 l0_1 x7_1).f0) != a1) = true := bne_iff_ne.mpr c7
    by_cases c27 : ((rd_T78 l0_1 x7_1).f0) = a2
    rotate_left
    ·rw [if_neg c27] at H
     have c27b0 : (((rd_T78 l0_1 x7_1).f0) == a2) = false := beq_eq_false_iff_ne.mpr c27
     have c27b1 : (((rd_T78 l0_1 x7_1).f0) != a2) = true := bne_iff_ne.mpr c27
     have H' := Aside0.mk H
     clear H
     have hcz37_0 := bC0 BK157.out
     have hcz37_1 := bC1 BK157.out
     have hfz37_0 := blk_frozen BK157.out 0
     have hfz37_1 := blk_frozen BK157.out 1
     have p158 : 0 ≤ (x7_1 : Int) := oA
     have q158 : x7_1 < (l0_1.length : Int) := oA
     obtain ⟨ad158, e158, hx158_0, hx158_1⟩ := at_T78 HR0_1.out x7_1 p158 q158
     cases e158
     replace hx158_0 := (HB.out.cell (World.block_lt_of_cell? w _ hx158_0)).trans hx158_0
     replace hx158_1 := (HB.out.cell (World.block_lt_of_cell? w _ hx158_1)).trans hx158_1
     replace p158 := eq_true p158
     replace q158 := eq_true q158
     go_wp2_with (first | ((with_reducible refine gate_dst (N := 8) rfl ?_);refine box_event ?hg (N := 8) ?hd (cs := #[.int .i64 0, .int .i64 0]) (t := 78) ?hr ?_;(case hd => rfl);(case hg => rfl);(case hr => exact gS);intro gb159 hg w38 hbox hb;have n0_ := aM (kB hb BK157.out);have n1_ := aM (below_step (by exact bB) hb);have n2_ := aM (hbox);have n3_ := aM (sW hg : w.heap.size ≤ gb159);have n4_ := aM (sW hg : w.heap.size ≤ gb159);have n5_ := aM (nL hg (kP BK157.out));have n6_ := aM (nG hg (kP BK157.out));clear BK157;clear HB;have BK157 := n0_;have HB := n1_;have BK159 := n2_;have GW159 := n3_;have GE159 := n4_;have NB157_159 := n5_;have NB159_157 := n6_;clear n0_ n1_ n2_ n3_ n4_ n5_ n6_;clear hb hbox hg;have hnb39 := NB159_157.out;have hnc39 := NB157_159.out;have hcz40_0 := bC0 BK159.out;have hcz40_1 := bC1 BK159.out;have hfz40_0 := blk_frozen BK159.out 0;have hfz40_1 := blk_frozen BK159.out 1))
     go_roundg k1
     case measure => have := HK1.out;omega
     case rel => exact ⟨(wrap64 (x7_1 + 1)), eF, H', ⟨by have := HK1.out;omega⟩, ⟨by refine kP ?_;refine blk_far ?_ NB157_159.out _;refine kP ?_;refine blk_far ?_ NB157_159.out _;exact kP BK157.out⟩, ⟨by exact bB⟩⟩
    rw [if_pos c27] at H
    have c27b0 : (((rd_T78 l0_1 x7_1).f0) == a2) = true := beq_iff_eq.mpr c27
    have c27b1 : (((rd_T78 l0_1 x7_1).f0) != a2) = false := bne_eq_false_iff_eq.mpr c27
    clear c27
    by_cases c28 : ((rd_T78 l0_1 x7_1).f1) = a1
    ·rw [if_pos c28] at H
     have c28b0 : (((rd_T78 l0_1 x7_1).f1) == a1) = true := beq_iff_eq.mpr c28
     have c28b1 : (((rd_T78 l0_1 x7_1).f1) != a1) = false := bne_eq_false_iff_eq.mpr c28
     clear c28
     obtain rfl := Option.some.inj H
     have hcz29_0 := bC0 BK157.out
     have hcz29_1 := bC1 BK157.out
     have hfz29_0 := blk_frozen BK157.out 0
     have hfz29_1 := blk_frozen BK157.out 1
     have p158 : 0 ≤ (x7_1 : Int) := oA
     have q158 : x7_1 < (l0_1.length : Int) := oA
     obtain ⟨ad158, e158, hx158_0, hx158_1⟩ := at_T78 HR0_1.out x7_1 p158 q158
     cases e158
     replace hx158_0 := (HB.out.cell (World.block_lt_of_cell? w _ hx158_0)).trans hx158_0
     replace hx158_1 := (HB.out.cell (World.block_lt_of_cell? w _ hx158_1)).trans hx158_1
     replace p158 := eq_true p158
     replace q158 := eq_true q158
     go_wp2_with (first | ((with_reducible refine gate_dst (N := 8) rfl ?_);refine box_event ?hg (N := 8) ?hd (cs := #[.int .i64 0, .int .i64 0]) (t := 78) ?hr ?_;(case hd => rfl);(case hg => rfl);(case hr => exact gS);intro gb159 hg w30 hbox hb;have n0_ := aM (kB hb BK157.out);have n1_ := aM (below_step (by exact bB) hb);have n2_ := aM (hbox);have n3_ := aM (sW hg : w.heap.size ≤ gb159);have n4_ := aM (sW hg : w.heap.size ≤ gb159);have n5_ := aM (nL hg (kP BK157.out));have n6_ := aM (nG hg (kP BK157.out));clear BK157;clear HB;have BK157 := n0_;have HB := n1_;have BK159 := n2_;have GW159 := n3_;have GE159 := n4_;have NB157_159 := n5_;have NB159_157 := n6_;clear n0_ n1_ n2_ n3_ n4_ n5_ n6_;clear hb hbox hg;have hnb31 := NB159_157.out;have hnc31 := NB157_159.out;have hcz32_0 := bC0 BK159.out;have hcz32_1 := bC1 BK159.out;have hfz32_0 := blk_frozen BK159.out 0;have hfz32_1 := blk_frozen BK159.out 1))
     go_ret
     exact ⟨eW, by exact bB⟩
    rw [if_neg c28] at H
    have c28b0 : (((rd_T78 l0_1 x7_1).f1) == a1) = false := beq_eq_false_iff_ne.mpr c28
    have c28b1 : (((rd_T78 l0_1 x7_1).f1) != a1) = true := bne_iff_ne.mpr c28
    have H' := Aside0.mk H
    clear H
    have hcz33_0 := bC0 BK157.out
    have hcz33_1 := bC1 BK157.out
    have hfz33_0 := blk_frozen BK157.out 0
    have hfz33_1 := blk_frozen BK157.out 1
    have p158 : 0 ≤ (x7_1 : Int) := oA
    have q158 : x7_1 < (l0_1.length : Int) := oA
    obtain ⟨ad158, e158, hx158_0, hx158_1⟩ := at_T78 HR0_1.out x7_1 p158 q158
    cases e158
    replace hx158_0 := (HB.out.cell (World.block_lt_of_cell? w _ hx158_0)).trans hx158_0
    replace hx158_1 := (HB.out.cell (World.block_lt_of_cell? w _ hx158_1)).trans hx158_1
    replace p158 := eq_true p158
    replace q158 := eq_true q158
    go_wp2_with (first | ((with_reducible refine gate_dst (N := 8) rfl ?_);refine box_event ?hg (N := 8) ?hd (cs := #[.int .i64 0, .int .i64 0]) (t := 78) ?hr ?_;(case hd => rfl);(case hg => rfl);(case hr => exact gS);intro gb159 hg w34 hbox hb;have n0_ := aM (kB hb BK157.out);have n1_ := aM (below_step (by exact bB) hb);have n2_ := aM (hbox);have n3_ := aM (sW hg : w.heap.size ≤ gb159);have n4_ := aM (sW hg : w.heap.size ≤ gb159);have n5_ := aM (nL hg (kP BK157.out));have n6_ := aM (nG hg (kP BK157.out));clear BK157;clear HB;have BK157 := n0_;have HB := n1_;have BK159 := n2_;have GW159 := n3_;have GE159 := n4_;have NB157_159 := n5_;have NB159_157 := n6_;clear n0_ n1_ n2_ n3_ n4_ n5_ n6_;clear hb hbox hg;have hnb35 := NB159_157.out;have hnc35 := NB157_159.out;have hcz36_0 := bC0 BK159.out;have hcz36_1 := bC1 BK159.out;have hfz36_0 := blk_frozen BK159.out 0;have hfz36_1 := blk_frozen BK159.out 1))
    go_roundg k1
    case measure => have := HK1.out;omega
    case rel => exact ⟨(wrap64 (x7_1 + 1)), eF, H', ⟨by have := HK1.out;omega⟩, ⟨by refine kP ?_;refine blk_far ?_ NB157_159.out _;refine kP ?_;refine blk_far ?_ NB157_159.out _;exact kP BK157.out⟩, ⟨by exact bB⟩⟩
   rw [if_pos c7] at H
   have c7b0 : (((rd_T78 l0_1 x7_1).f0) == a1) = true := beq_iff_eq.mpr c7
   have c7b1 : (((rd_T78 l0_1 x7_1).f0) != a1) = false := bne_eq_false_iff_eq.mpr c7
   clear c7
   by_cases c8 : ((rd_T78 l0_1 x7_1).f1) = a2
   ·rw [if_pos c8] at H
    have c8b0 : (((rd_T78 l0_1 x7_1).f1) == a2) = true := beq_iff_eq.mpr c8
    have c8b1 : (((rd_T78 l0_1 x7_1).f1) != a2) = false := bne_eq_false_iff_eq.mpr c8
    clear c8
    obtain rfl := Option.some.inj H
    have hcz9_0 := bC0 BK157.out
    have hcz9_1 := bC1 BK157.out
    have hfz9_0 := blk_frozen BK157.out 0
    have hfz9_1 := blk_frozen BK157.out 1
    have p158 : 0 ≤ (x7_1 : Int) := oA
    have q158 : x7_1 < (l0_1.length : Int) := oA
    obtain ⟨ad158, e158, hx158_0, hx158_1⟩ := at_T78 HR0_1.out x7_1 p158 q158
    cases e158
    replace hx158_0 := (HB.out.cell (World.block_lt_of_cell? w _ hx158_0)).trans hx158_0
    replace hx158_1 := (HB.out.cell (World.block_lt_of_cell? w _ hx158_1)).trans hx158_1
    replace p158 := eq_true p158
    replace q158 := eq_true q158
    go_wp2_with (first | ((with_reducible refine gate_dst (N := 8) rfl ?_);refine box_event ?hg (N := 8) ?hd (cs := #[.int .i64 0, .int .i64 0]) (t := 78) ?hr ?_;(case hd => rfl);(case hg => rfl);(case hr => exact gS);intro gb159 hg w10 hbox hb;have n0_ := aM (kB hb BK157.out);have n1_ := aM (below_step (by exact bB) hb);have n2_ := aM (hbox);have n3_ := aM (sW hg : w.heap.size ≤ gb159);have n4_ := aM (sW hg : w.heap.size ≤ gb159);have n5_ := aM (nL hg (kP BK157.out));have n6_ := aM (nG hg (kP BK157.out));clear BK157;clear HB;have BK157 := n0_;have HB := n1_;have BK159 := n2_;have GW159 := n3_;have GE159 := n4_;have NB157_159 := n5_;have NB159_157 := n6_;clear n0_ n1_ n2_ n3_ n4_ n5_ n6_;clear hb hbox hg;have hnb11 := NB159_157.out;have hnc11 := NB157_159.out;have hcz12_0 := bC0 BK159.out;have hcz12_1 := bC1 BK159.out;have hfz12_0 := blk_frozen BK159.out 0;have hfz12_1 := blk_frozen BK159.out 1))
    go_ret
    exact ⟨eW, by exact bB⟩
   rw [if_neg c8] at H
   have c8b0 : (((rd_T78 l0_1 x7_1).f1) == a2) = false := beq_eq_false_iff_ne.mpr c8
   have c8b1 : (((rd_T78 l0_1 x7_1).f1) != a2) = true := bne_iff_ne.mpr c8
   by_cases c13 : ((rd_T78 l0_1 x7_1).f0) = a2
   rotate_left
   ·rw [if_neg c13] at H
    have c13b0 : (((rd_T78 l0_1 x7_1).f0) == a2) = false := beq_eq_false_iff_ne.mpr c13
    have c13b1 : (((rd_T78 l0_1 x7_1).f0) != a2) = true := bne_iff_ne.mpr c13
    have H' := Aside0.mk H
    clear H
    have hcz23_0 := bC0 BK157.out
    have hcz23_1 := bC1 BK157.out
    have hfz23_0 := blk_frozen BK157.out 0
    have hfz23_1 := blk_frozen BK157.out 1
    have p158 : 0 ≤ (x7_1 : Int) := oA
    have q158 : x7_1 < (l0_1.length : Int) := oA
    obtain ⟨ad158, e158, hx158_0, hx158_1⟩ := at_T78 HR0_1.out x7_1 p158 q158
    cases e158
    replace hx158_0 := (HB.out.cell (World.block_lt_of_cell? w _ hx158_0)).trans hx158_0
    replace hx158_1 := (HB.out.cell (World.block_lt_of_cell? w _ hx158_1)).trans hx158_1
    replace p158 := eq_true p158
    replace q158 := eq_true q158
    go_wp2_with (first | ((with_reducible refine gate_dst (N := 8) rfl ?_);refine box_event ?hg (N := 8) ?hd (cs := #[.int .i64 0, .int .i64 0]) (t := 78) ?hr ?_;(case hd => rfl);(case hg => rfl);(case hr => exact gS);intro gb159 hg w24 hbox hb;have n0_ := aM (kB hb BK157.out);have n1_ := aM (below_step (by exact bB) hb);have n2_ := aM (hbox);have n3_ := aM (sW hg : w.heap.size ≤ gb159);have n4_ := aM (sW hg : w.heap.size ≤ gb159);have n5_ := aM (nL hg (kP BK157.out));have n6_ := aM (nG hg (kP BK157.out));clear BK157;clear HB;have BK157 := n0_;have HB := n1_;have BK159 := n2_;have GW159 := n3_;have GE159 := n4_;have NB157_159 := n5_;have NB159_157 := n6_;clear n0_ n1_ n2_ n3_ n4_ n5_ n6_;clear hb hbox hg;have hnb25 := NB159_157.out;have hnc25 := NB157_159.out;have hcz26_0 := bC0 BK159.out;have hcz26_1 := bC1 BK159.out;have hfz26_0 := blk_frozen BK159.out 0;have hfz26_1 := blk_frozen BK159.out 1))
    go_roundg k1
    case measure => have := HK1.out;omega
    case rel => exact ⟨(wrap64 (x7_1 + 1)), eF, H', ⟨by have := HK1.out;omega⟩, ⟨by refine kP ?_;refine blk_far ?_ NB157_159.out _;refine kP ?_;refine blk_far ?_ NB157_159.out _;exact kP BK157.out⟩, ⟨by exact bB⟩⟩
   rw [if_pos c13] at H
   have c13b0 : (((rd_T78 l0_1 x7_1).f0) == a2) = true := beq_iff_eq.mpr c13
   have c13b1 : (((rd_T78 l0_1 x7_1).f0) != a2) = false := bne_eq_false_iff_eq.mpr c13
   clear c13
   by_cases c14 : ((rd_T78 l0_1 x7_1).f1) = a1
   ·rw [if_pos c14] at H
    have c14b0 : (((rd_T78 l0_1 x7_1).f1) == a1) = true := beq_iff_eq.mpr c14
    have c14b1 : (((rd_T78 l0_1 x7_1).f1) != a1) = false := bne_eq_false_iff_eq.mpr c14
    clear c14
    obtain rfl := Option.some.inj H
    have hcz15_0 := bC0 BK157.out
    have hcz15_1 := bC1 BK157.out
    have hfz15_0 := blk_frozen BK157.out 0
    have hfz15_1 := blk_frozen BK157.out 1
    have p158 : 0 ≤ (x7_1 : Int) := oA
    have q158 : x7_1 < (l0_1.length : Int) := oA
    obtain ⟨ad158, e158, hx158_0, hx158_1⟩ := at_T78 HR0_1.out x7_1 p158 q158
    cases e158
    replace hx158_0 := (HB.out.cell (World.block_lt_of_cell? w _ hx158_0)).trans hx158_0
    replace hx158_1 := (HB.out.cell (World.block_lt_of_cell? w _ hx158_1)).trans hx158_1
    replace p158 := eq_true p158
    replace q158 := eq_true q158
    go_wp2_with (first | ((with_reducible refine gate_dst (N := 8) rfl ?_);refine box_event ?hg (N := 8) ?hd (cs := #[.int .i64 0, .int .i64 0]) (t := 78) ?hr ?_;(case hd => rfl);(case hg => rfl);(case hr => exact gS);intro gb159 hg w16 hbox hb;have n0_ := aM (kB hb BK157.out);have n1_ := aM (below_step (by exact bB) hb);have n2_ := aM (hbox);have n3_ := aM (sW hg : w.heap.size ≤ gb159);have n4_ := aM (sW hg : w.heap.size ≤ gb159);have n5_ := aM (nL hg (kP BK157.out));have n6_ := aM (nG hg (kP BK157.out));clear BK157;clear HB;have BK157 := n0_;have HB := n1_;have BK159 := n2_;have GW159 := n3_;have GE159 := n4_;have NB157_159 := n5_;have NB159_157 := n6_;clear n0_ n1_ n2_ n3_ n4_ n5_ n6_;clear hb hbox hg;have hnb17 := NB159_157.out;have hnc17 := NB157_159.out;have hcz18_0 := bC0 BK159.out;have hcz18_1 := bC1 BK159.out;have hfz18_0 := blk_frozen BK159.out 0;have hfz18_1 := blk_frozen BK159.out 1))
    go_ret
    exact ⟨eW, by exact bB⟩
   rw [if_neg c14] at H
   have c14b0 : (((rd_T78 l0_1 x7_1).f1) == a1) = false := beq_eq_false_iff_ne.mpr c14
   have c14b1 : (((rd_T78 l0_1 x7_1).f1) != a1) = true := bne_iff_ne.mpr c14
   have H' := Aside0.mk H
   clear H
   have hcz19_0 := bC0 BK157.out
   have hcz19_1 := bC1 BK157.out
   have hfz19_0 := blk_frozen BK157.out 0
   have hfz19_1 := blk_frozen BK157.out 1
   have p158 : 0 ≤ (x7_1 : Int) := oA
   have q158 : x7_1 < (l0_1.length : Int) := oA
   obtain ⟨ad158, e158, hx158_0, hx158_1⟩ := at_T78 HR0_1.out x7_1 p158 q158
   cases e158
   replace hx158_0 := (HB.out.cell (World.block_lt_of_cell? w _ hx158_0)).trans hx158_0
   replace hx158_1 := (HB.out.cell (World.block_lt_of_cell? w _ hx158_1)).trans hx158_1
   replace p158 := eq_true p158
   replace q158 := eq_true q158
   go_wp2_with (first | ((with_reducible refine gate_dst (N := 8) rfl ?_);refine box_event ?hg (N := 8) ?hd (cs := #[.int .i64 0, .int .i64 0]) (t := 78) ?hr ?_;(case hd => rfl);(case hg => rfl);(case hr => exact gS);intro gb159 hg w20 hbox hb;have n0_ := aM (kB hb BK157.out);have n1_ := aM (below_step (by exact bB) hb);have n2_ := aM (hbox);have n3_ := aM (sW hg : w.heap.size ≤ gb159);have n4_ := aM (sW hg : w.heap.size ≤ gb159);have n5_ := aM (nL hg (kP BK157.out));have n6_ := aM (nG hg (kP BK157.out));clear BK157;clear HB;have BK157 := n0_;have HB := n1_;have BK159 := n2_;have GW159 := n3_;have GE159 := n4_;have NB157_159 := n5_;have NB159_157 := n6_;clear n0_ n1_ n2_ n3_ n4_ n5_ n6_;clear hb hbox hg;have hnb21 := NB159_157.out;have hnc21 := NB157_159.out;have hcz22_0 := bC0 BK159.out;have hcz22_1 := bC1 BK159.out;have hfz22_0 := blk_frozen BK159.out 0;have hfz22_1 := blk_frozen BK159.out 1))
   go_roundg k1
   case measure => have := HK1.out;omega
   case rel => exact ⟨(wrap64 (x7_1 + 1)), eF, H', ⟨by have := HK1.out;omega⟩, ⟨by refine kP ?_;refine blk_far ?_ NB157_159.out _;refine kP ?_;refine blk_far ?_ NB157_159.out _;exact kP BK157.out⟩, ⟨by exact bB⟩⟩


end Go.Proofs.YtgahlimikndecaaDoor.QEternalFamily
