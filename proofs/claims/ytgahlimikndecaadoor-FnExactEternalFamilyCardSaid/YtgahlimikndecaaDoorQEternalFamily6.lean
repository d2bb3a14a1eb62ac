import Derived.Test.YtgahlimikndecaaDoorQEternalFamily0
import Derived.Test.YtgahlimikndecaaDoorQEternalFamily5
import Derived.Shelf.Spec.TrailingZeros
import Derived.Ground.Names7Prog
namespace Go.Proofs.YtgahlimikndecaaDoor.QEternalFamily
open Go.RowKit Go.Proofs.YtgahlimikndecaaDoorW.PrintWords Go.Proofs.YtgahlimikndecaaDoorW.PrintLast Go.Proofs.YtgahlimikndecaaDoorW.PrintMore
attribute [local go_sem] max2_int min2_int max_two min_two max_three min_three max_four min_four   -- for this text's walks alone
set_option linter.unusedVariables false
set_option linter.unusedSimpArgs false
set_option maxRecDepth 100000
set_option maxHeartbeats 8000000
/-! ### laws_eqGraph: function 12 -/
def laws_eqGraph.f (k : Nat) (a0_0 : Int) (l0_1 : List (S78)) (a1_0 : Int) (l1_1 : List (S78)) : Option (Bool) := if a0_0 = a1_0 then ((laws_eqIntA2S.f k l0_1 l1_1).bind fun t330 => (if t330 = true then (some true) else (some false))) else (some false)
theorem laws_eqGraph.mono : ∀ a0 a1 a2 a3 k, LeO (laws_eqGraph.f k a0 a1 a2 a3) (laws_eqGraph.f (k + 1) a0 a1 a2 a3) := by
 intro a0 a1 a2 a3 k
 unfold laws_eqGraph.f
 have q0 := laws_eqIntA2S.mono
 exact lM
theorem laws_eqGraph.calls (k : Nat) (a0_0 : Int) (A0_1 : Option Addr) (c0_1 : Nat) (l0_1 : List (S78)) (a1_0 : Int) (A1_1 : Option Addr) (c1_1 : Nat) (l1_1 : List (S78)) (r : Bool) (w : World) (hr0_1 : Kd.C k78 w A0_1 l0_1.length l0_1) (hc0_1 : l0_1.length ≤ c0_1) (hr1_1 : Kd.C k78 w A1_1 l1_1.length l1_1) (hc1_1 : l1_1.length ≤ c1_1) (h : laws_eqGraph.f k a0_0 l0_1 a1_0 l1_1 = some r) :
  Calls Tryd.prog 12 #[.agg #[.int .i64 a0_0, .slice A0_1 l0_1.length c0_1], .agg #[.int .i64 a1_0, .slice A1_1 l1_1.length c1_1]] w fun e w' => e = .returned (.bool r) ∧ Below w.heap.size w w' := by
 have hu29 := Tryd.underlying29
 have HR0_1 := Aside0.mk hr0_1
 have HC0_1 := Aside0.mk hc0_1
 clear hr0_1 hc0_1
 have HR1_1 := Aside0.mk hr1_1
 have HC1_1 := Aside0.mk hc1_1
 clear hr1_1 hc1_1
 have HB := aM (Below.refl w.heap.size w)
 have H : (if a0_0 = a1_0 then ((laws_eqIntA2S.f k l0_1 l1_1).bind fun t330 => (if t330 = true then (some true) else (some false))) else (some false)) = some r := h
 clear h
 by_cases c3 : a0_0 = a1_0
 rotate_left
 ·rw [if_neg c3] at H
  have c3b0 : (a0_0 == a1_0) = false := beq_eq_false_iff_ne.mpr c3
  have c3b1 : (a0_0 != a1_0) = true := bne_iff_ne.mpr c3
  obtain rfl := Option.some.inj H
  go_enter Tryd.func12, Tryd.ntmps12
  go_wp2_with (first | ((with_reducible refine gate_dst (N := 2) rfl ?_);refine box_event ?hg (N := 2) ?hd (cs := #[.int .i64 a0_0, .slice A0_1 l0_1.length c0_1]) (t := 29) ?hr ?_;(case hd => rfl);(case hg => rfl);(case hr => exact gS);intro gb328 hg w18 hbox hb;have n0_ := aM (below_step (by exact bB) hb);have n1_ := aM (hbox);have n2_ := aM (sW hg : w.heap.size ≤ gb328);have n3_ := aM (sW hg : w.heap.size ≤ gb328);clear HB;have HB := n0_;have BK328 := n1_;have GW328 := n2_;have GE328 := n3_;clear n0_ n1_ n2_ n3_;clear hb hbox hg) | ((with_reducible refine gate_dst (N := 3) rfl ?_);refine box_event ?hg (N := 3) ?hd (cs := #[.int .i64 a1_0, .slice A1_1 l1_1.length c1_1]) (t := 29) ?hr ?_;(case hd => rfl);(case hg => rfl);(case hr => exact gS);intro gb329 hg w19 hbox hb;have n0_ := aM (kB hb BK328.out);have n1_ := aM (below_step (by exact bB) hb);have n2_ := aM (hbox);have n3_ := aM (sW hg : w.heap.size ≤ gb329);have n4_ := aM (sW hg : w.heap.size ≤ gb329);have n5_ := aM (nL hg (kP BK328.out));have n6_ := aM (nG hg (kP BK328.out));clear BK328;clear HB;have BK328 := n0_;have HB := n1_;have BK329 := n2_;have GW329 := n3_;have GE329 := n4_;have NB328_329 := n5_;have NB329_328 := n6_;clear n0_ n1_ n2_ n3_ n4_ n5_ n6_;clear hb hbox hg;have hnb20 := NB328_329.out;have hnc20 := NB329_328.out;have hcz21_0 := bC0 BK328.out;have hcz21_1 := bC1 BK328.out;have hfz21_0 := blk_frozen BK328.out 0;have hfz21_1 := blk_frozen BK328.out 1;have hcz22_0 := bC0 BK329.out;have hcz22_1 := bC1 BK329.out;have hfz22_0 := blk_frozen BK329.out 0;have hfz22_1 := blk_frozen BK329.out 1))
  go_ret
  exact ⟨eW, by exact bB⟩
 rw [if_pos c3] at H
 have c3b0 : (a0_0 == a1_0) = true := beq_iff_eq.mpr c3
 have c3b1 : (a0_0 != a1_0) = false := bne_eq_false_iff_eq.mpr c3
 clear c3
 replace H := Option.bind_eq_some_iff.mp H
 obtain ⟨t330, A40, H⟩ := H
 try dsimp only at H
 have A4 := Aside0.mk A40
 clear A40
 by_cases c5 : t330 = true
 ·subst c5
  rw [if_pos rfl] at H
  obtain rfl := Option.some.inj H
  go_enter Tryd.func12, Tryd.ntmps12
  go_wp2_with (first | ((with_reducible refine gate_dst (N := 2) rfl ?_);refine box_event ?hg (N := 2) ?hd (cs := #[.int .i64 a0_0, .slice A0_1 l0_1.length c0_1]) (t := 29) ?hr ?_;(case hd => rfl);(case hg => rfl);(case hr => exact gS);intro gb328 hg w6 hbox hb;have n0_ := aM (below_step (by exact bB) hb);have n1_ := aM (hbox);have n2_ := aM (sW hg : w.heap.size ≤ gb328);have n3_ := aM (sW hg : w.heap.size ≤ gb328);clear HB;have HB := n0_;have BK328 := n1_;have GW328 := n2_;have GE328 := n3_;clear n0_ n1_ n2_ n3_;clear hb hbox hg) | ((with_reducible refine gate_dst (N := 3) rfl ?_);refine box_event ?hg (N := 3) ?hd (cs := #[.int .i64 a1_0, .slice A1_1 l1_1.length c1_1]) (t := 29) ?hr ?_;(case hd => rfl);(case hg => rfl);(case hr => exact gS);intro gb329 hg w7 hbox hb;have n0_ := aM (kB hb BK328.out);have n1_ := aM (below_step (by exact bB) hb);have n2_ := aM (hbox);have n3_ := aM (sW hg : w.heap.size ≤ gb329);have n4_ := aM (sW hg : w.heap.size ≤ gb329);have n5_ := aM (nL hg (kP BK328.out));have n6_ := aM (nG hg (kP BK328.out));clear BK328;clear HB;have BK328 := n0_;have HB := n1_;have BK329 := n2_;have GW329 := n3_;have GE329 := n4_;have NB328_329 := n5_;have NB329_328 := n6_;clear n0_ n1_ n2_ n3_ n4_ n5_ n6_;clear hb hbox hg;have hnb8 := NB328_329.out;have hnc8 := NB329_328.out;have hcz9_0 := bC0 BK328.out;have hcz9_1 := bC1 BK328.out;have hfz9_0 := blk_frozen BK328.out 0;have hfz9_1 := blk_frozen BK328.out 1;have hcz10_0 := bC0 BK329.out;have hcz10_1 := bC1 BK329.out;have hfz10_0 := blk_frozen BK329.out 0;have hfz10_1 := blk_frozen BK329.out 1) | ((with_reducible refine gate_callee (f := 35) rfl ?_);refine goesL_ (some 14) rfl rfl Tryd.func35 (by kernel_rfl) rfl #[.slice A0_1 l0_1.length c0_1, .slice A1_1 l1_1.length c1_1] rfl mM ?_;(with_reducible refine (laws_eqIntA2S.calls k _ _ l0_1 _ _ l1_1 true _ ?side1 ?side2 ?side3 ?side4 A4.out).mono ?_);(case side1 => exact cP (Kd.C_below HR0_1.out HB.out));(case side2 => exact HC0_1.out);(case side3 => exact cP (Kd.C_below HR1_1.out HB.out));(case side4 => exact HC1_1.out);rintro e w11 ⟨rfl, hb⟩;refine ⟨_, rfl, ?_⟩;have n0_ := aM (kB hb BK328.out);have n1_ := aM (kB hb BK329.out);have n2_ := aM (below_step (by exact bB) hb);clear BK328;clear BK329;clear HB;have BK328 := n0_;have BK329 := n1_;have HB := n2_;clear n0_ n1_ n2_;(try clear hb)))
  go_ret
  exact ⟨eW, by exact bB⟩
 replace c5 := Bool.eq_false_iff.mpr c5
 subst c5
 rw [if_neg (show ¬ (false = true) by decide)] at H
 obtain rfl := Option.some.inj H
 go_enter Tryd.func12, Tryd.ntmps12
 go_wp2_with (first | ((with_reducible refine gate_dst (N := 2) rfl ?_);refine box_event ?hg (N := 2) ?hd (cs := #[.int .i64 a0_0, .slice A0_1 l0_1.length c0_1]) (t := 29) ?hr ?_;(case hd => rfl);(case hg => rfl);(case hr => exact gS);intro gb328 hg w12 hbox hb;have n0_ := aM (below_step (by exact bB) hb);have n1_ := aM (hbox);have n2_ := aM (sW hg : w.heap.size ≤ gb328);have n3_ := aM (sW hg : w.heap.size ≤ gb328);clear HB;have HB := n0_;have BK328 := n1_;have GW328 := n2_;have GE328 := n3_;clear n0_ n1_ n2_ n3_;clear hb hbox hg) | ((with_reducible refine gate_dst (N := 3) rfl ?_);refine box_event ?hg (N := 3) ?hd (cs := #[.int .i64 a1_0, .slice A1_1 l1_1.length c1_1]) (t := 29) ?hr ?_;(case hd => rfl);(case hg => rfl);(case hr => exact gS);intro gb329 hg w13 hbox hb;have n0_ := aM (kB hb BK328.out);have n1_ := aM (below_step (by exact bB) hb);have n2_ := aM (hbox);have n3_ := aM (sW hg : w.heap.size ≤ gb329);have n4_ := aM (sW hg : w.heap.size ≤ gb329);have n5_ := aM (nL hg (kP BK328.out));have n6_ := aM (nG hg (kP BK328.out));clear BK328;clear HB;have BK328 := n0_;have HB := n1_;have BK329 := n2_;have GW329 := n3_;have GE329 := n4_;have NB328_329 := n5_;have NB329_328 := n6_;clear n0_ n1_ n2_ n3_ n4_ n5_ n6_;clear hb hbox hg;have hnb14 := NB328_329.out;have hnc14 := NB329_328.out;have hcz15_0 := bC0 BK328.out;have hcz15_1 := bC1 BK328.out;have hfz15_0 := blk_frozen BK328.out 0;have hfz15_1 := blk_frozen BK328.out 1;have hcz16_0 := bC0 BK329.out;have hcz16_1 := bC1 BK329.out;have hfz16_0 := blk_frozen BK329.out 0;have hfz16_1 := blk_frozen BK329.out 1) | ((with_reducible refine gate_callee (f := 35) rfl ?_);refine goesL_ (some 14) rfl rfl Tryd.func35 (by kernel_rfl) rfl #[.slice A0_1 l0_1.length c0_1, .slice A1_1 l1_1.length c1_1] rfl mM ?_;(with_reducible refine (laws_eqIntA2S.calls k _ _ l0_1 _ _ l1_1 false _ ?side1 ?side2 ?side3 ?side4 A4.out).mono ?_);(case side1 => exact cP (Kd.C_below HR0_1.out HB.out));(case side2 => exact HC0_1.out);(case side3 => exact cP (Kd.C_below HR1_1.out HB.out));(case side4 => exact HC1_1.out);rintro e w17 ⟨rfl, hb⟩;refine ⟨_, rfl, ?_⟩;have n0_ := aM (kB hb BK328.out);have n1_ := aM (kB hb BK329.out);have n2_ := aM (below_step (by exact bB) hb);clear BK328;clear BK329;clear HB;have BK328 := n0_;have BK329 := n1_;have HB := n2_;clear n0_ n1_ n2_;(try clear hb)))
 go_ret
 exact ⟨eW, by exact bB⟩


/-! ### laws_markIntA2S: by hand -/
def laws_markIntA2S.l0 : Nat → List (S78) → Int → Int → Option (Int × List (S78))
 | 0, _, _, _ => none
 | k + 1, x0, x1, x5 => if x5 < (x0.length : Int) then (if 0 ≤ x5 then laws_markIntA2S.l0 k (x0.set x5.toNat (⟨x1, wrap64 (x1 + 1)⟩ : S78)) (wrap64 (wrap64 (x1 + 1) + 1)) (wrap64 (x5 + 1)) else none) else some (x1, x0)
def laws_markIntA2S.f (l0 : List (S78)) (a1 : Int) : Option (Int × (List (S78))) := laws_markIntA2S.l0 (l0.length + 1) l0 a1 0
theorem laws_markIntA2S.calls (P0_ : Nat → Prop) (u9000_ : Value) (l0 : List (S78)) (a1 : Int) (r1 : Int) (r2 : List (S78)) (w0 w : World) (hB : Below w0.heap.size w0 w) (ho0 : Kd.R k78 78 w w0.heap.size P0_ u9000_ l0) (h : laws_markIntA2S.f l0 a1 = some (r1, r2)) :
  Calls Tryd.prog 36 #[u9000_, .int .i64 a1] w fun e w' => e = .returned (.int .i64 r1) ∧ Kd.R k78 78 w' w0.heap.size (fun k_ => (P0_ k_ ∨ w.heap.size ≤ k_)) u9000_ r2 ∧ Below w0.heap.size w0 w' ∧ Kept w w' (fun k_ => P0_ k_) := by
 have hu78 := Tryd.underlying78
 have HO0 := aM (show Kd.R k78 78 w w0.heap.size (fun k_ => (P0_ k_ ∨ w.heap.size ≤ k_)) u9000_ l0 from Kd.R_mono ho0 (fun k_ hk => (.inl hk)))
 have HK := aM (Kept.refl w (fun k_ => P0_ k_))
 have HW0 := Aside0.mk hB.size
 have HB := Aside0.mk hB
 clear hB
 have H' := aM (show laws_markIntA2S.l0 (l0.length + 1) l0 a1 0 = some (r1, r2) from h)
 clear h
 generalize l0.length + 1 = k at H'
 go_enter Tryd.func36, Tryd.ntmps36
 go_wp2
 go_loopg [1, 5] k (fun kq v1 v5 w' => ∃ (x0_1 : List (S78)) (x1_1 : Int) (x5_1 : Int), v1 = .int .i64 x1_1 ∧ v5 = .int .i64 x5_1 ∧ Aside0 (laws_markIntA2S.l0 kq x0_1 x1_1 x5_1 = some (r1, r2)) ∧ Aside0 (kq ≤ k) ∧ Aside0 (Kd.R k78 78 w' w0.heap.size (fun k_ => (P0_ k_ ∨ w.heap.size ≤ k_)) u9000_ x0_1) ∧ Aside0 (Kept w w' (fun k_ => P0_ k_)) ∧ Aside0 (Below w0.heap.size w0 w'))
 case atStart => exact ⟨l0, a1, 0, rfl, rfl, H', ⟨Nat.le_refl _⟩, HO0, HK, HB⟩
 case round =>
  clear H'
  obtain ⟨x0_1, x1_1, x5_1, rfl, rfl, HA, HK1, HO_0, HK, HB⟩ := hrel
  cases gk with
  | zero => exact absurd HA.out (by simp [laws_markIntA2S.l0])
  | succ k1 =>
   have H := HA.out
   clear HA
   simp only [laws_markIntA2S.l0] at H
   by_cases c3 : x5_1 < (x0_1.length : Int)
   ·rw [if_pos c3] at H
    have c3b0 : decide (x5_1 < (x0_1.length : Int)) = true := decide_eq_true c3
    by_cases c4 : 0 ≤ x5_1
    ·rw [if_pos c4] at H
     have c4b0 : decide (0 ≤ x5_1) = true := decide_eq_true c4
     have H' := Aside0.mk H
     clear H
     have c3n : x5_1.toNat < x0_1.length := by omega
     obtain ⟨Ao6, co6, eo6⟩ := Kd.R_slice HO_0.out
     subst eo6
     obtain ⟨go4, co4, eo4, gb4, gl4, cl4, HG4⟩ := Kd.R_form HO_0.out (by omega)
     (first | cases eo4 | (injection eo4 with ea_ en_ ec_;(first | subst ea_ | (injection ea_ with ea_;subst ea_));subst ec_;clear en_))
     have GB4 := Aside0.mk gb4
     clear gb4 gl4 HG4
     obtain ⟨ce4, hcl4, hM4, hcc4, hfr4⟩ := Kd.R_elem HO_0.out z78 x5_1 c4 c3
     obtain rfl := k78_openM hM4
     have HP5 := Kd.R_seg HO_0.out x5_1 c4 c3 (seg := [.int .i64 x1_1, .int .i64 (wrap64 (x1_1 + 1))]) (j := 0) hcl4 hcc4 (show 2 ≤ 2 from by decide) (x' := (⟨x1_1, wrap64 (x1_1 + 1)⟩ : S78)) (k78_mkM _ _ _ (⟨x1_1, wrap64 (x1_1 + 1)⟩ : S78)) (fun _ hk => hk)
     have hc0 := hcc4 0 _ rfl
     have hc1 := hcc4 1 _ rfl
     have hf0 := hfr4 0
     have hf1 := hfr4 1
     simp only [show (k78).sz = 2 from rfl, Nat.mul_one, Nat.add_zero] at hc0 hc1 hf0 hf1
     clear hcl4 hcc4 hfr4 hM4
     have p4 : (0 ≤ x5_1) = True := eq_true c4
     have q4 : (x5_1 < (x0_1.length : Int)) = True := eq_true c3
     simp only [show (k78).sz = 2 from rfl, Nat.add_zero] at HP5
     generalize hji : x5_1.toNat * 2 = ji at *
     have e1 : ji * 1 = ji := Nat.mul_one _
     go_wp2
     refine wp_loop_rounds 3 ?_
     rw [rounds_succ]
     go_wp2
     rw [rounds_succ]
     go_wp2
     rw [rounds_succ]
     go_wp2
     have HO' := Aside0.mk HP5.1
     have HK' := aM (Kept.of_grown (S := (fun k_ => P0_ k_)) HP5.2 HK.out (fun k_ e_ => HO_0.out.1 k_ e_))
     have HB' := aM (below_set (below_set HB.out GB4.out (j := ji) (v := .int .i64 x1_1)) GB4.out (j := ji + 1) (v := .int .i64 (wrap64 (x1_1 + 1))))
     go_roundg k1
     case measure => have := HK1.out;omega
     case rel => exact ⟨_, _, _, rfl, rfl, H', ⟨by have := HK1.out;omega⟩, HO', HK', HB'⟩
    ·rw [if_neg c4] at H;exact absurd H (by simp)
   ·rw [if_neg c3] at H
    have c3b0 : decide (x5_1 < (x0_1.length : Int)) = false := decide_eq_false c3
    clear c3
    simp only [Option.some.injEq, Prod.mk.injEq] at H
    obtain ⟨rfl, rfl⟩ := H
    obtain ⟨Ao9, co9, eo9⟩ := Kd.R_slice HO_0.out
    subst eo9
    go_wp2
    go_ret
    exact ⟨rfl, HO_0.out, HB.out, HK.out⟩

/-! ### laws_markGraph: function 13 -/
def laws_markGraph.f (a0_0 : Int) (l0_1 : List (S78)) (a1 : Int) : Option (Int × (List (S78))) := (laws_markIntA2S.f l0_1 a1).bind fun bt333 => (some (bt333.1, bt333.2))
theorem laws_markGraph.calls (a0_0 : Int) (P0_1_ : Nat → Prop) (u9000_ : Value) (l0_1 : List (S78)) (a1 : Int) (r1 : Int) (r2 : List (S78)) (w0 w : World) (hB : Below w0.heap.size w0 w) (ho0_1 : Kd.R k78 78 w w0.heap.size P0_1_ u9000_ l0_1) (h : laws_markGraph.f a0_0 l0_1 a1 = some (r1, r2)) :
  Calls Tryd.prog 13 #[.agg #[.int .i64 a0_0, u9000_], .int .i64 a1] w fun e w' => e = .returned (.int .i64 r1) ∧ Kd.R k78 78 w' w0.heap.size (fun k_ => (P0_1_ k_ ∨ w.heap.size ≤ k_)) u9000_ r2 ∧ Below w0.heap.size w0 w' ∧ Kept w w' (fun k_ => P0_1_ k_) := by
 have hu29 := Tryd.underlying29
 have HO0_1 := aM (show Kd.R k78 78 w w0.heap.size (fun k_ => (P0_1_ k_ ∨ w.heap.size ≤ k_)) u9000_ l0_1 from Kd.R_mono ho0_1 (fun k_ hk => (.inl hk)))
 have HK := aM (Kept.refl w (fun k_ => P0_1_ k_))
 have HW0 := Aside0.mk hB.size
 have HB := Aside0.mk hB
 clear hB
 have H : ((laws_markIntA2S.f l0_1 a1).bind fun bt333 => (some (bt333.1, bt333.2))) = some (r1, r2) := h
 clear h
 replace H := Option.bind_eq_some_iff.mp H
 obtain ⟨⟨t333, t334⟩, A30, H⟩ := H
 try dsimp only at H
 have A3 := Aside0.mk A30
 clear A30
 simp only [Option.some.injEq, Prod.mk.injEq] at H
 obtain ⟨rfl, rfl⟩ := H
 obtain ⟨Ao4, co4, eo4⟩ := Kd.R_slice HO0_1.out
 subst eo4
 go_enter Tryd.func13, Tryd.ntmps13
 go_wp2_with (first | ((with_reducible refine gate_dst (N := 2) rfl ?_);refine box_event ?hg (N := 2) ?hd (cs := #[.int .i64 a0_0, .slice Ao4 l0_1.length co4]) (t := 29) ?hr ?_;(case hd => rfl);(case hg => rfl);(case hr => exact gS);intro gb332 hg w5 hbox hb;have n0_ := aM (Kd.R_below (by exact rP HO0_1.out) hb);have n1_ := aM (Kept.below (S := (fun k_ => P0_1_ k_)) (by exact kE) hb);have n2_ := aM (below_step (by exact bB) hb);have n3_ := aM (hbox);have n4_ := aM ((by rw [hg];exact (by first | exact HK.out.1 | exact (show Kept w _ (fun k_ => P0_1_ k_) from by exact kE).1) : w.heap.size ≤ gb332));have n5_ := aM (sW hg : w0.heap.size ≤ gb332);clear HO0_1;clear HK;clear HB;have HO0_1 := n0_;have HK := n1_;have HB := n2_;have BK332 := n3_;have GW332 := n4_;have GE332 := n5_;clear n0_ n1_ n2_ n3_ n4_ n5_;clear hb hbox hg;have hcz6_0 := bC0 BK332.out;have hcz6_1 := bC1 BK332.out;have hfz6_0 := blk_frozen BK332.out 0;have hfz6_1 := blk_frozen BK332.out 1) | ((with_reducible refine gate_callee (f := 36) rfl ?_);refine goesL_ (some 8) rfl rfl Tryd.func36 (by kernel_rfl) rfl #[.slice Ao4 l0_1.length co4, .int .i64 a1] rfl mM ?_;(with_reducible refine (laws_markIntA2S.calls (fun k_ => some k_ = (.slice Ao4 l0_1.length co4 : Value).ownBlock) (.slice Ao4 l0_1.length co4) l0_1 a1 t333 t334 w0 _ ?side1 ?side2 A3.out).mono ?_);(case side1 => exact bB);(case side2 => exact Kd.R_tight rfl HO0_1.out);rintro e w7 ⟨rfl, hy0, hb, hkp⟩;refine ⟨_, rfl, ?_⟩;have n0_ := aM (Kd.R_reok rfl hy0 (fun k_ e_ => HO0_1.out.1 k_ e_));have n1_ := aM (blk_kept (by exact kP BK332.out) hkp (fun hs_ => (fun e_ => (Kd.R_ne HO0_1.out BK332.out (by decide)) e_) hs_));have n2_ := aM (Kept.then_ (S := (fun k_ => P0_1_ k_)) (by exact kE) hkp (fun k_ hs_ => (fun e_ => (HO0_1.out.1 k_ e_.symm)) hs_));have n3_ := aM (hb);clear HO0_1;clear BK332;clear HK;clear HB;have HO0_1 := n0_;have BK332 := n1_;have HK := n2_;have HB := n3_;clear n0_ n1_ n2_ n3_;(try clear hb);(try clear hkp);(try clear hy0)))
 go_ret
 exact ⟨eW, by refine rP ?_;exact HO0_1.out, by exact bB, by exact kE⟩


/-! ### laws_heldIntS: function 23 -/
def laws_heldIntS.l0 : Nat → List Int → Int → Int → Option (Int)
 | 0, _, _, _ => none
 | k + 1, x0, x1, x5 => if x5 < (x0.length : Int) then (if 0 ≤ x5 then (if (rd x0 x5) = x1 then (laws_heldIntS.l0 k x0 (wrap64 (x1 + 1)) (wrap64 (x5 + 1))) else (some (-1))) else (none)) else (some x1)
def laws_heldIntS.f (k : Nat) (l0 : List Int) (a1 : Int) : Option (Int) := laws_heldIntS.l0 k l0 a1 0
theorem laws_heldIntS.mono_l : ∀ k, (∀ y0 y1 y2, LeO (laws_heldIntS.l0 k y0 y1 y2) (laws_heldIntS.l0 (k + 1) y0 y1 y2))
 | 0 => fun _ _ _ r h => by simp [laws_heldIntS.l0] at h
 | k + 1 => by
  have ih0 := laws_heldIntS.mono_l k
  ·intro y0 y1 y2
   unfold laws_heldIntS.l0
   exact lM
theorem laws_heldIntS.mono : ∀ a0 a1 k, LeO (laws_heldIntS.f k a0 a1) (laws_heldIntS.f (k + 1) a0 a1) := by
 intro a0 a1 k
 have ih0 := laws_heldIntS.mono_l k
 unfold laws_heldIntS.f
 exact lM
theorem laws_heldIntS.calls (k : Nat) (A0 : Option Addr) (c0 : Nat) (l0 : List Int) (a1 : Int) (r : Int) (w : World) (hr0 : Kd.C (Kd.int .i64) w A0 l0.length l0) (hc0 : l0.length ≤ c0) (h : laws_heldIntS.f k l0 a1 = some r) :
  Calls Tryd.prog 23 #[.slice A0 l0.length c0, .int .i64 a1] w fun e w' => e = .returned (.int .i64 r) ∧ Drawn0 w w' := by
 have HR0 := Aside0.mk hr0
 have HC0 := Aside0.mk hc0
 clear hr0 hc0
 have H : (laws_heldIntS.l0 k l0 a1 0) = some r := h
 clear h
 have H' := Aside0.mk H
 clear H
 go_enter Tryd.func23, Tryd.ntmps23
 go_wp2
 go_loopg [1, 5] k (fun kq v1 v5 w' => ∃ (x1_1 : Int) (x5_1 : Int), v1 = .int .i64 x1_1 ∧ v5 = .int .i64 x5_1 ∧ Aside0 (laws_heldIntS.l0 kq l0 x1_1 x5_1 = some r) ∧ Aside0 (kq ≤ k) ∧ Drawn0 w w')
 case atStart => exact ⟨(a1), (0), eF, eF, H', ⟨Nat.le_refl _⟩, dR⟩
 case round =>
  clear H'
  try clear c2
  try clear p2
  obtain ⟨x1_1, x5_1, rfl, rfl, HA, HK1, ⟨m1, rfl⟩⟩ := hrel
  cases gk with
  | zero => exact absurd HA.out (by simp [laws_heldIntS.l0])
  | succ k1 =>
   have H := HA.out
   clear HA
   simp only [laws_heldIntS.l0] at H
   by_cases c3 : x5_1 < (l0.length : Int)
   rotate_left
   ·rw [if_neg c3] at H
    have c3b0 : decide (x5_1 < (l0.length : Int)) = false := decide_eq_false c3
    clear c3
    obtain rfl := Option.some.inj H
    go_wp2
    go_ret
    exact ⟨eF, dR⟩
   rw [if_pos c3] at H
   have c3b0 : decide (x5_1 < (l0.length : Int)) = true := decide_eq_true c3
   clear c3
   by_cases c4 : 0 ≤ x5_1
   rotate_left
   ·rw [if_neg c4] at H
    exact absurd H (by simp)
   rw [if_pos c4] at H
   have c4b0 : decide (0 ≤ x5_1) = true := decide_eq_true c4
   clear c4
   by_cases c5 : (rd l0 x5_1) = x1_1
   rotate_left
   ·rw [if_neg c5] at H
    have c5b0 : ((rd l0 x5_1) == x1_1) = false := beq_eq_false_iff_ne.mpr c5
    have c5b1 : ((rd l0 x5_1) != x1_1) = true := bne_iff_ne.mpr c5
    obtain rfl := Option.some.inj H
    have p335 : 0 ≤ (x5_1 : Int) := oA
    have q335 : x5_1 < (l0.length : Int) := oA
    obtain ⟨ad335, e335, hx335_0⟩ := Kd.at_int HR0.out x5_1 p335 q335
    cases e335
    replace p335 := eq_true p335
    replace q335 := eq_true q335
    go_wp2
    go_ret
    exact ⟨eF, dR⟩
   rw [if_pos c5] at H
   have c5b0 : ((rd l0 x5_1) == x1_1) = true := beq_iff_eq.mpr c5
   have c5b1 : ((rd l0 x5_1) != x1_1) = false := bne_eq_false_iff_eq.mpr c5
   clear c5
   have H' := Aside0.mk H
   clear H
   have p335 : 0 ≤ (x5_1 : Int) := oA
   have q335 : x5_1 < (l0.length : Int) := oA
   obtain ⟨ad335, e335, hx335_0⟩ := Kd.at_int HR0.out x5_1 p335 q335
   cases e335
   replace p335 := eq_true p335
   replace q335 := eq_true q335
   go_wp2
   go_roundg k1
   case measure => have := HK1.out;omega
   case rel => exact ⟨(wrap64 (x1_1 + 1)), (wrap64 (x5_1 + 1)), eF, eF, H', ⟨by have := HK1.out;omega⟩, dR⟩


/-! ### laws_heldIntSS: function 15 -/
def laws_heldIntSS.l0 : Nat → List (List Int) → Int → Int → Option (Int)
 | 0, _, _, _ => none
 | k + 1, x0, x1, x5 => if x5 < (x0.length : Int) then (if 0 ≤ x5 then ((laws_heldIntS.f k (rd_L2 x0 x5) x1).bind fun t337 => (if t337 < 0 then (some (-1)) else (laws_heldIntSS.l0 k x0 t337 (wrap64 (x5 + 1))))) else (none)) else (some x1)
def laws_heldIntSS.f (k : Nat) (l0 : List (List Int)) (a1 : Int) : Option (Int) := laws_heldIntSS.l0 k l0 a1 0
theorem laws_heldIntSS.mono_l : ∀ k, (∀ y0 y1 y2, LeO (laws_heldIntSS.l0 k y0 y1 y2) (laws_heldIntSS.l0 (k + 1) y0 y1 y2))
 | 0 => fun _ _ _ r h => by simp [laws_heldIntSS.l0] at h
 | k + 1 => by
  have ih0 := laws_heldIntSS.mono_l k
  ·intro y0 y1 y2
   unfold laws_heldIntSS.l0
   have q0 := laws_heldIntS.mono
   exact lM
theorem laws_heldIntSS.mono : ∀ a0 a1 k, LeO (laws_heldIntSS.f k a0 a1) (laws_heldIntSS.f (k + 1) a0 a1) := by
 intro a0 a1 k
 have ih0 := laws_heldIntSS.mono_l k
 unfold laws_heldIntSS.f
 have q0 := laws_heldIntS.mono
 exact lM
theorem laws_heldIntSS.calls (k : Nat) (A0 : Option Addr) (c0 : Nat) (l0 : List (List Int)) (a1 : Int) (r : Int) (w : World) (hr0 : Kd.C (Kd.slice 3 (Kd.int .i64)) w A0 l0.length l0) (hc0 : l0.length ≤ c0) (h : laws_heldIntSS.f k l0 a1 = some r) :
  Calls Tryd.prog 15 #[.slice A0 l0.length c0, .int .i64 a1] w fun e w' => e = .returned (.int .i64 r) ∧ Drawn0 w w' := by
 have HR0 := Aside0.mk hr0
 have HC0 := Aside0.mk hc0
 clear hr0 hc0
 have H : (laws_heldIntSS.l0 k l0 a1 0) = some r := h
 clear h
 have H' := Aside0.mk H
 clear H
 go_enter Tryd.func15, Tryd.ntmps15
 go_wp2
 go_loopg [1, 5] k (fun kq v1 v5 w' => ∃ (x1_1 : Int) (x5_1 : Int), v1 = .int .i64 x1_1 ∧ v5 = .int .i64 x5_1 ∧ Aside0 (laws_heldIntSS.l0 kq l0 x1_1 x5_1 = some r) ∧ Aside0 (kq ≤ k) ∧ Drawn0 w w')
 case atStart => exact ⟨(a1), (0), eF, eF, H', ⟨Nat.le_refl _⟩, dR⟩
 case round =>
  clear H'
  try clear c1
  try clear p2
  obtain ⟨x1_1, x5_1, rfl, rfl, HA, HK1, ⟨m1, rfl⟩⟩ := hrel
  cases gk with
  | zero => exact absurd HA.out (by simp [laws_heldIntSS.l0])
  | succ k1 =>
   have H := HA.out
   clear HA
   simp only [laws_heldIntSS.l0] at H
   by_cases c3 : x5_1 < (l0.length : Int)
   rotate_left
   ·rw [if_neg c3] at H
    have c3b0 : decide (x5_1 < (l0.length : Int)) = false := decide_eq_false c3
    clear c3
    obtain rfl := Option.some.inj H
    go_wp2
    go_ret
    exact ⟨eF, dR⟩
   rw [if_pos c3] at H
   have c3b0 : decide (x5_1 < (l0.length : Int)) = true := decide_eq_true c3
   clear c3
   by_cases c4 : 0 ≤ x5_1
   rotate_left
   ·rw [if_neg c4] at H
    exact absurd H (by simp)
   rw [if_pos c4] at H
   have c4b0 : decide (0 ≤ x5_1) = true := decide_eq_true c4
   clear c4
   replace H := Option.bind_eq_some_iff.mp H
   obtain ⟨t337, A50, H⟩ := H
   try dsimp only at H
   have A5 := Aside0.mk A50
   clear A50
   by_cases c6 : t337 < 0
   ·rw [if_pos c6] at H
    have c6b0 : decide (t337 < 0) = true := decide_eq_true c6
    clear c6
    obtain rfl := Option.some.inj H
    have p336 : 0 ≤ (x5_1 : Int) := oA
    have q336 : x5_1 < (l0.length : Int) := oA
    obtain ⟨ad336, A336_0, c336_0, e336, hx336_0, hl336_0, hi336_0⟩ := at_L2 HR0.out x5_1 p336 q336
    cases e336
    have HR336_0 := Aside0.mk hi336_0
    have HC336_0 := Aside0.mk hl336_0
    clear hi336_0 hl336_0
    replace p336 := eq_true p336
    replace q336 := eq_true q336
    go_wp2_with (first | ((with_reducible refine gate_callee (f := 23) rfl ?_);refine goesL_ (some 17) rfl rfl Tryd.func23 (by kernel_rfl) rfl #[.slice A336_0 (rd_L2 l0 x5_1).length c336_0, .int .i64 x1_1] rfl mM ?_;(with_reducible refine (laws_heldIntS.calls k1 _ _ (rd_L2 l0 x5_1) x1_1 t337 _ ?side1 ?side2 A5.out).mono ?_);(case side1 => exact cP HR336_0.out);(case side2 => exact HC336_0.out);rintro e w' ⟨rfl, ⟨nd, rfl⟩⟩;refine ⟨_, rfl, ?_⟩))
    go_ret
    exact ⟨eF, dR⟩
   rw [if_neg c6] at H
   have c6b0 : decide (t337 < 0) = false := decide_eq_false c6
   clear c6
   have H' := Aside0.mk H
   clear H
   have p336 : 0 ≤ (x5_1 : Int) := oA
   have q336 : x5_1 < (l0.length : Int) := oA
   obtain ⟨ad336, A336_0, c336_0, e336, hx336_0, hl336_0, hi336_0⟩ := at_L2 HR0.out x5_1 p336 q336
   cases e336
   have HR336_0 := Aside0.mk hi336_0
   have HC336_0 := Aside0.mk hl336_0
   clear hi336_0 hl336_0
   replace p336 := eq_true p336
   replace q336 := eq_true q336
   go_wp2_with (first | ((with_reducible refine gate_callee (f := 23) rfl ?_);refine goesL_ (some 17) rfl rfl Tryd.func23 (by kernel_rfl) rfl #[.slice A336_0 (rd_L2 l0 x5_1).length c336_0, .int .i64 x1_1] rfl mM ?_;(with_reducible refine (laws_heldIntS.calls k1 _ _ (rd_L2 l0 x5_1) x1_1 t337 _ ?side1 ?side2 A5.out).mono ?_);(case side1 => exact cP HR336_0.out);(case side2 => exact HC336_0.out);rintro e w' ⟨rfl, ⟨nd, rfl⟩⟩;refine ⟨_, rfl, ?_⟩))
   go_roundg k1
   case measure => have := HK1.out;omega
   case rel => exact ⟨(t337), (wrap64 (x5_1 + 1)), eF, eF, H', ⟨by have := HK1.out;omega⟩, dR⟩


/-! ### laws_markIntS: function 22 -/
def laws_markIntS.l0 : Nat → List Int → Int → Int → Option (Int × List Int)
 | 0, _, _, _ => none
 | k + 1, x0, x1, x5 => if x5 < (x0.length : Int) then (if 0 ≤ x5 then (laws_markIntS.l0 k (x0.set (x5 : Int).toNat x1) (wrap64 (x1 + 1)) (wrap64 (x5 + 1))) else (none)) else (some (x1, x0))
def laws_markIntS.f (k : Nat) (l0 : List Int) (a1 : Int) : Option (Int × List Int) := laws_markIntS.l0 k l0 a1 0
theorem laws_markIntS.mono_l : ∀ k, (∀ y0 y1 y2, LeO (laws_markIntS.l0 k y0 y1 y2) (laws_markIntS.l0 (k + 1) y0 y1 y2))
 | 0 => fun _ _ _ r h => by simp [laws_markIntS.l0] at h
 | k + 1 => by
  have ih0 := laws_markIntS.mono_l k
  ·intro y0 y1 y2
   unfold laws_markIntS.l0
   exact lM
theorem laws_markIntS.mono : ∀ a0 a1 k, LeO (laws_markIntS.f k a0 a1) (laws_markIntS.f (k + 1) a0 a1) := by
 intro a0 a1 k
 have ih0 := laws_markIntS.mono_l k
 unfold laws_markIntS.f
 exact lM
theorem laws_markIntS.calls (k : Nat) (P0_ : Nat → Prop) (u9000_ : Value) (l0 : List Int) (a1 : Int) (r1 : Int) (r2 : List Int) (w0 w : World) (hB : Below w0.heap.size w0 w) (ho0 : Kd.R (Kd.int .i64) 3 w w0.heap.size P0_ u9000_ l0) (h : laws_markIntS.f k l0 a1 = some (r1, r2)) :
  Calls Tryd.prog 22 #[u9000_, .int .i64 a1] w fun e w' => e = .returned (.int .i64 r1) ∧ Kd.R (Kd.int .i64) 3 w' w0.heap.size (fun k_ => (P0_ k_ ∨ w.heap.size ≤ k_)) u9000_ r2 ∧ Below w0.heap.size w0 w' ∧ Kept w w' (fun k_ => P0_ k_) := by
 have HO0 := aM (show Kd.R (Kd.int .i64) 3 w w0.heap.size (fun k_ => (P0_ k_ ∨ w.heap.size ≤ k_)) u9000_ l0 from Kd.R_mono ho0 (fun k_ hk => (.inl hk)))
 have HK := aM (Kept.refl w (fun k_ => P0_ k_))
 have HW0 := Aside0.mk hB.size
 have HB := Aside0.mk hB
 clear hB
 have H : (laws_markIntS.l0 k l0 a1 0) = some (r1, r2) := h
 clear h
 have H' := Aside0.mk H
 clear H
 go_enter Tryd.func22, Tryd.ntmps22
 go_wp2
 go_loopg [1, 5] k (fun kq v1 v5 w' => ∃ (x0_1 : List Int) (x1_1 : Int) (x5_1 : Int), v1 = .int .i64 x1_1 ∧ v5 = .int .i64 x5_1 ∧ Aside0 (laws_markIntS.l0 kq x0_1 x1_1 x5_1 = some (r1, r2)) ∧ Aside0 (kq ≤ k) ∧ Aside0 (Kd.R (Kd.int .i64) 3 w' w0.heap.size (fun k_ => (P0_ k_ ∨ w.heap.size ≤ k_)) u9000_ x0_1) ∧ Aside0 (Kept w w' (fun k_ => P0_ k_)) ∧ Aside0 (Below w0.heap.size w0 w'))
 case atStart => exact ⟨(l0), (a1), (0), eF, eF, H', ⟨Nat.le_refl _⟩, ⟨by exact rP HO0.out⟩, ⟨by exact kE⟩, ⟨by exact bB⟩⟩
 case round =>
  clear H'
  try clear c2
  try clear p2
  obtain ⟨x0_1, x1_1, x5_1, rfl, rfl, HA, HK1, HO_0, HK, HB⟩ := hrel
  cases gk with
  | zero => exact absurd HA.out (by simp [laws_markIntS.l0])
  | succ k1 =>
   have H := HA.out
   clear HA
   simp only [laws_markIntS.l0] at H
   by_cases c3 : x5_1 < (x0_1.length : Int)
   rotate_left
   ·rw [if_neg c3] at H
    have c3b0 : decide (x5_1 < (x0_1.length : Int)) = false := decide_eq_false c3
    clear c3
    simp only [Option.some.injEq, Prod.mk.injEq] at H
    obtain ⟨rfl, rfl⟩ := H
    obtain ⟨Ao9, co9, eo9⟩ := Kd.R_slice HO_0.out
    subst eo9
    go_wp2
    go_ret
    exact ⟨eW, by exact rP HO_0.out, by exact bB, by exact kE⟩
   rw [if_pos c3] at H
   have c3b0 : decide (x5_1 < (x0_1.length : Int)) = true := decide_eq_true c3
   clear c3
   by_cases c4 : 0 ≤ x5_1
   rotate_left
   ·rw [if_neg c4] at H
    exact absurd H (by simp)
   rw [if_pos c4] at H
   have c4b0 : decide (0 ≤ x5_1) = true := decide_eq_true c4
   clear c4
   obtain ⟨y338, hy338⟩ : ∃ y_ : List Int, y_ = (x0_1.set (x5_1 : Int).toNat x1_1) := ⟨_, rfl⟩
   replace H : (laws_markIntS.l0 k1 y338 (wrap64 (x1_1 + 1)) (wrap64 (x5_1 + 1))) = some (r1, r2) := by first | (rw [hy338];with_reducible exact H) | (have H2_ := (Option.bind_some _ _).symm.trans H;rw [hy338];with_reducible exact H2_) | (have H2_ := (Option.bind_some _ _).symm.trans H;with_reducible exact H2_) | with_reducible exact H | (rw [hy338];exact H) | exact H
   have Ny338 := Aside0.mk hy338
   clear hy338
   have H' := Aside0.mk H
   clear H
   obtain ⟨Ao6, co6, eo6⟩ := Kd.R_slice HO_0.out
   subst eo6
   have p5 : 0 ≤ (x5_1 : Int) := oA
   have q5 : (x5_1 : Int) < ((x0_1.length : Int) : Int) := oA
   obtain ⟨go5, co5, eo5, gb5, gl5, cl5, HG5⟩ := Kd.R_form HO_0.out (by omega)
   (first | cases eo5 | (injection eo5 with ea_ en_ ec_;(first | subst ea_ | (injection ea_ with ea_;subst ea_));subst ec_;clear en_))
   have GB5 := Aside0.mk gb5
   have GG5 := Aside0.mk HG5
   clear gb5 gl5 HG5
   have HMgo5 := aM (show (P0_ go5 ∨ w.heap.size ≤ go5) from (HO_0.out.1 _ rfl))
   obtain ⟨hx5_0, hf5_0⟩ := Kd.R_celln 0 HO_0.out (x5_1 : Int) p5 q5
   replace p5 := eq_true p5
   replace q5 := eq_true q5
   have HP7 := Kd.R_putg HO_0.out (x5_1 : Int) x1_1
   go_wp2_with (first | ((with_reducible refine gate_store (t := 3) (p := 15) rfl ?_);refine store_event (t := 3) (p := 15) (v := ?vo_w8) (w1 := (wr.setCell ⟨go5, (x5_1 : Int).toNat, none⟩ (.int .i64 x1_1))) ?hg ?ho ?hn ?hr ?_;(case ho => rfl);(case hg => rfl);(case hn => rfl);(case hr => exact gS);intro w8 hw;have hg : wr.grownBy w8 (some go5) := (by rw [hw];exact HP7.2);have hp_ : Kd.R (Kd.int .i64) 3 w8 w0.heap.size (fun k_ => (P0_ k_ ∨ w.heap.size ≤ k_)) (.slice (some ⟨go5, 0, none⟩) x0_1.length co6) y338 := (by rw [hw, Ny338.out];exact HP7.1);clear HP7;have n0_ := aM (hp_);have n1_ := aM ((by rw [hw];exact below_set (HB.out) GB5.out : Below w0.heap.size w0 w8));have n2_ := aM (Kept.of_grown (S := (fun k_ => P0_ k_)) hg (by exact kE) (fun k_ e_ => (HO_0.out.1 k_ e_)));clear HO_0;clear HB;clear HK;have HO_0 := n0_;have HB := n1_;have HK := n2_;clear n0_ n1_ n2_;clear hg hw hp_))
   go_roundg k1
   case measure => have := HK1.out;omega
   case rel => exact ⟨(y338), (wrap64 (x1_1 + 1)), (wrap64 (x5_1 + 1)), eF, eF, H', ⟨by have := HK1.out;omega⟩, ⟨by exact rP HO_0.out⟩, ⟨by exact kE⟩, ⟨by exact bB⟩⟩


/-! ### laws_markIntSS: by hand -/
def laws_markIntSS.l0 : Nat → List (List Int) → Int → Int → Option (Int × List (List Int))
 | 0, _, _, _ => none
 | k + 1, x0, x1, x5 => if x5 < (x0.length : Int) then (if 0 ≤ x5 then (laws_markIntS.f k (rd_L2 x0 x5) x1).bind fun bt => laws_markIntSS.l0 k (x0.set (x5 : Int).toNat bt.2) bt.1 (wrap64 (x5 + 1)) else none) else some (x1, x0)
def laws_markIntSS.f (k : Nat) (l0 : List (List Int)) (a1 : Int) : Option (Int × (List (List Int))) := laws_markIntSS.l0 k l0 a1 0
theorem laws_markIntSS.mono_l : ∀ k, (∀ y0 y1 y2, LeO (laws_markIntSS.l0 k y0 y1 y2) (laws_markIntSS.l0 (k + 1) y0 y1 y2))
 | 0 => fun _ _ _ r h => by simp [laws_markIntSS.l0] at h
 | k + 1 => by
  have ih0 := laws_markIntSS.mono_l k
  intro y0 y1 y2
  unfold laws_markIntSS.l0
  repeat' first
  | exact ih0 _ _ _
  | exact laws_markIntS.mono _ _ _
  | exact LeO.refl _
  | exact LeO.none _
  | refine LeO.ite ?_ ?_
  | refine LeO.bind ?_ (fun _ => ?_)
theorem laws_markIntSS.mono : ∀ a0 a1 k, LeO (laws_markIntSS.f k a0 a1) (laws_markIntSS.f (k + 1) a0 a1) := fun a0 a1 k => laws_markIntSS.mono_l k a0 a1 0
theorem laws_markIntSS.calls (k : Nat) (P0_ : Nat → Prop) (u9000_ : Value) (l0 : List (List Int)) (a1 : Int) (r1 : Int) (r2 : List (List Int)) (w0 w : World) (hB : Below w0.heap.size w0 w) (ho0 : Kd.S (Kd.slice 3 (Kd.int .i64)) 36 w w0.heap.size P0_ u9000_ l0) (h : laws_markIntSS.f k l0 a1 = some (r1, r2)) :
  Calls Tryd.prog 14 #[u9000_, .int .i64 a1] w fun e w' => e = .returned (.int .i64 r1) ∧ Kd.S (Kd.slice 3 (Kd.int .i64)) 36 w' w0.heap.size (fun k_ => (P0_ k_ ∨ w.heap.size ≤ k_)) u9000_ r2 ∧ Below w0.heap.size w0 w' ∧ Kept w w' (fun k_ => P0_ k_) := by
 have HO0 := aM (show Kd.S (Kd.slice 3 (Kd.int .i64)) 36 w w0.heap.size (fun k_ => (P0_ k_ ∨ w.heap.size ≤ k_)) u9000_ l0 from Kd.S_mono ho0 (fun k_ hk => (.inl hk)))
 have HK := aM (Kept.refl w (fun k_ => P0_ k_))
 have HB := Aside0.mk hB
 clear hB ho0
 have H' := aM (show laws_markIntSS.l0 k l0 a1 0 = some (r1, r2) from h)
 clear h
 go_enter Tryd.func14, Tryd.ntmps14
 go_wp2
 go_loopg [1, 5] k (fun kq v1 v5 w' => ∃ (x0_1 : List (List Int)) (x1_1 : Int) (x5_1 : Int), v1 = .int .i64 x1_1 ∧ v5 = .int .i64 x5_1 ∧ Aside0 (laws_markIntSS.l0 kq x0_1 x1_1 x5_1 = some (r1, r2)) ∧ Aside0 (kq ≤ k) ∧ Aside0 (Kd.S (Kd.slice 3 (Kd.int .i64)) 36 w' w0.heap.size (fun k_ => (P0_ k_ ∨ w.heap.size ≤ k_)) u9000_ x0_1) ∧ Aside0 (Kept w w' (fun k_ => P0_ k_)) ∧ Aside0 (Below w0.heap.size w0 w'))
 case atStart => exact ⟨l0, a1, 0, rfl, rfl, H', ⟨Nat.le_refl _⟩, HO0, HK, HB⟩
 case round =>
  clear H'
  obtain ⟨x0_1, x1_1, x5_1, rfl, rfl, HA, HK1, HO_0, HK, HB⟩ := hrel
  cases gk with
  | zero => exact absurd HA.out (by simp [laws_markIntSS.l0])
  | succ k1 =>
   have H := HA.out
   clear HA
   simp only [laws_markIntSS.l0] at H
   by_cases c3 : x5_1 < (x0_1.length : Int)
   ·rw [if_pos c3] at H
    have c3b0 : decide (x5_1 < (x0_1.length : Int)) = true := decide_eq_true c3
    by_cases c4 : 0 ≤ x5_1
    ·rw [if_pos c4] at H
     have c4b0 : decide (0 ≤ x5_1) = true := decide_eq_true c4
     obtain ⟨⟨q1, q2⟩, hbt, H⟩ := Option.bind_eq_some_iff.mp H
     have H' := Aside0.mk H
     clear H
     obtain ⟨go4, co4, eo4, gb4, gl4, cl4, HG4⟩ := Kd.S_form HO_0.out (by omega)
     subst eo4
     obtain ⟨oki, ce4, hcl4, hM4, hcc4, hoki4, hH4⟩ := Kd.S_lend HO_0.out [] x5_1 c4 c3
     obtain ⟨vr, rfl, hR4⟩ := hM4
     have hx4 := hcc4 0 _ rfl
     simp only [show ((Kd.slice 3 (Kd.int .i64))).sz = 1 from rfl, Nat.mul_one, Nat.add_zero] at hx4
     obtain ⟨Ar, cr, er⟩ := Kd.R_slice hR4
     subst er
     have hcall := laws_markIntS.calls k1 oki (.slice Ar (x0_1.getD x5_1.toNat []).length cr) (x0_1.getD x5_1.toNat []) x1_1 q1 q2 w0 wr HB.out hR4 hbt
     have hH5 := Kd.H_widen hH4
     have HH := Aside0.mk hH5
     have HKI := Aside0.mk hoki4
     clear hcl4 hcc4 hH4 hH5 gb4 gl4 HG4 hR4 hbt hoki4
     have p4 : (0 ≤ x5_1) = True := eq_true c4
     have q4 : (x5_1 < (x0_1.length : Int)) = True := eq_true c3
     generalize (x0_1.getD x5_1.toNat []).length = rl at hx4 hcall HH
     go_wp2_with (first | (go_at_call 22;refine hcall.mono ?_;rintro e w11 ⟨rfl, ho, hb, hk⟩))
     have HO' := aM (Kd.H_back (Kd.H_kept HH.out hk (fun k_ _ hn hs => hn (.inl hs))) (x' := q2) ⟨_, rfl, ho⟩ (fun k_ hk_ => hk_.elim .inl (fun h_ => .inr ⟨.inr (Nat.le_trans HK.out.1 h_), h_⟩)))
     have HK' := aM (HK.out.then_ hk (fun k_ hk_ => (HKI.out k_ hk_).1))
     have HB' := Aside0.mk hb
     clear ho hb hk
     go_roundg k1
     case measure => have := HK1.out;omega
     case rel => exact ⟨_, _, _, rfl, rfl, H', ⟨by have := HK1.out;omega⟩, HO', HK', HB'⟩
    ·rw [if_neg c4] at H;exact absurd H (by simp)
   ·rw [if_neg c3] at H
    have c3b0 : decide (x5_1 < (x0_1.length : Int)) = false := decide_eq_false c3
    clear c3
    simp only [Option.some.injEq, Prod.mk.injEq] at H
    obtain ⟨rfl, rfl⟩ := H
    obtain ⟨Ao9, co9, eo9⟩ := Kd.S_slice HO_0.out
    subst eo9
    go_wp2
    go_ret
    exact ⟨rfl, HO_0.out, HB.out, HK.out⟩

/-! ### impl_within: function 31 -/
def impl_within.f (a0 : Int) (a1 : Int) (a2 : Int) : Option (Bool) := if a0 ≥ a1 then (some (decide (a0 ≤ a2))) else (some false)
theorem impl_within.calls (a0 : Int) (a1 : Int) (a2 : Int) (r : Bool) (w : World) (h : impl_within.f a0 a1 a2 = some r) :
  Calls Tryd.prog 31 #[.int .i64 a0, .int .i64 a1, .int .i64 a2] w fun e w' => e = .returned (.bool r) ∧ Drawn0 w w' := by
 have H : (if a0 ≥ a1 then (some (decide (a0 ≤ a2))) else (some false)) = some r := h
 clear h
 by_cases c4 : a0 ≥ a1
 rotate_left
 ·rw [if_neg c4] at H
  have c4b0 : decide (a1 ≤ a0) = false := decide_eq_false c4
  clear c4
  obtain rfl := Option.some.inj H
  go_enter Tryd.func31, Tryd.ntmps31
  go_wp2
  go_ret
  exact ⟨eF, dR⟩
 rw [if_pos c4] at H
 have c4b0 : decide (a1 ≤ a0) = true := decide_eq_true c4
 clear c4
 obtain rfl := Option.some.inj H
 go_enter Tryd.func31, Tryd.ntmps31
 go_wp2
 go_ret
 exact ⟨eF, dR⟩


/-! ### impl_netOf: by hand -/
def netStep (w : List Int) (e : S78) : List Int :=
 let w1 := w.set e.f0.toNat (Go.bits .or .i64 (rd w e.f0) (shl .i64 1 e.f1))
 w1.set e.f1.toNat (Go.bits .or .i64 (rd w1 e.f1) (shl .i64 1 e.f0))
def impl_netOf.f (a0_0 : Int) (l0_1 : List S78) : Option (List Int) := if decide (0 ≤ a0_0 ∧ a0_0 ≤ 8) && goodL a0_0 none l0_1 then some (l0_1.foldl netStep (List.replicate a0_0.toNat 0)) else none
theorem impl_netOf.calls (a0_0 : Int) (A0_1 : Option Addr) (c0_1 : Nat) (l0_1 : List (S78)) (r : List Int) (w : World) (hr0_1 : Kd.C k78 w A0_1 l0_1.length l0_1) (hc0_1 : l0_1.length ≤ c0_1) (h : impl_netOf.f a0_0 l0_1 = some r) :
  Calls Tryd.prog 32 #[.agg #[.int .i64 a0_0, .slice A0_1 l0_1.length c0_1]] w fun e w' => ∃ v0_ : Value, e = .returned (.agg #[v0_]) ∧ Kd.R (Kd.int .i64) 3 w' w.heap.size (fun _ => True) v0_ r ∧ Below w.heap.size w w' := by
 have hu29 := Tryd.underlying29
 have hu53 := Tryd.underlying56
 have hu72 := Tryd.underlying78
 have HR0_1 := Aside0.mk hr0_1
 have HC0_1 := Aside0.mk hc0_1
 clear hr0_1 hc0_1
 have HB := aM (Below.refl w.heap.size w)
 unfold impl_netOf.f at h
 by_cases hg : (decide (0 ≤ a0_0 ∧ a0_0 ≤ 8) && goodL a0_0 none l0_1) = true
 case neg => rw [if_neg hg] at h;cases h
 rw [if_pos hg] at h
 simp only [Bool.and_eq_true, decide_eq_true_eq] at hg
 obtain ⟨⟨hn0, hn8⟩, hg2⟩ := hg
 have HE := aM (goodL_all hg2)
 have c2b0 := eq_true hn0
 have c2b1 : decide (0 ≤ a0_0) = true := decide_eq_true hn0
 have hn35 : a0_0.toNat ≤ 35184372088832 := by omega
 have c3b0 := eq_true hn35
 have c3b1 : decide ((a0_0 : Int).toNat ≤ 35184372088832) = true := decide_eq_true hn35
 obtain ⟨y238, hy238⟩ : ∃ y_ : List Int, y_ = (List.replicate (a0_0 : Int).toNat 0) := ⟨_, rfl⟩
 rw [← hy238] at h
 have HN := aM (And.intro hn0 hn8)
 have HYL : Aside0 (y238.length = a0_0.toNat) := ⟨by rw [hy238];simp⟩
 have H' := aM (Option.some.inj h)
 have Ny238 := Aside0.mk hy238
 clear hy238 h hg2 hn0 hn8 hn35
 go_enter Tryd.func32, Tryd.ntmps32
 go_wp2_with (first | ((with_reducible refine gate_dst (N := 1) rfl ?_);refine box_event ?hg (N := 1) ?hd (cs := #[.int .i64 a0_0, .slice A0_1 l0_1.length c0_1]) (t := 29) ?hr ?_;(case hd => rfl);(case hg => rfl);(case hr => exact gS);intro gb236 hg w4 hbox hb;have n0_ := aM (below_step (by exact bB) hb);have n1_ := aM (hbox);have n2_ := aM (sW hg : w.heap.size ≤ gb236);have n3_ := aM (sW hg : w.heap.size ≤ gb236);clear HB;have HB := n0_;have BK236 := n1_;have GW236 := n2_;have GE236 := n3_;clear n0_ n1_ n2_ n3_;clear hb hbox hg) | ((with_reducible refine gate_dst (N := 2) rfl ?_);refine box_event ?hg (N := 2) ?hd (cs := #[.slice none 0 0]) (t := 56) ?hr ?_;(case hd => rfl);(case hg => rfl);(case hr => exact gS);intro gb237 hg w5 hbox hb;have n0_ := aM (kB hb BK236.out);have n1_ := aM (below_step (by exact bB) hb);have n2_ := aM (hbox);have n3_ := aM (sW hg : w.heap.size ≤ gb237);have n4_ := aM (sW hg : w.heap.size ≤ gb237);have n5_ := aM (nL hg (kP BK236.out));have n6_ := aM (nG hg (kP BK236.out));clear BK236;clear HB;have BK236 := n0_;have HB := n1_;have BK237 := n2_;have GW237 := n3_;have GE237 := n4_;have NB236_237 := n5_;have NB237_236 := n6_;clear n0_ n1_ n2_ n3_ n4_ n5_ n6_;clear hb hbox hg;have hnb6 := NB236_237.out;have hnc6 := NB237_236.out;have hcz7_0 := bC0 BK236.out;have hcz7_1 := bC1 BK236.out;have hfz7_0 := blk_frozen BK236.out 0;have hfz7_1 := blk_frozen BK236.out 1) | ((with_reducible refine gate_dst (N := 8) rfl ?_);refine Kd.R_make (Kd.int .i64) _ 3 rfl (N := 8) rfl 36 _ _ rfl a0_0 rfl rfl Tryd.underlying36 (.int .i64 0) 8 infoInt rfl (by decide) (by omega) 0 (ok := fun _ => True) (okp := fun _ => True) rfl (fun _ hk => hk) trivial (oA) (Nat.le_trans (Nat.mul_le_mul_right _ (oA : a0_0.toNat ≤ 35184372088832)) (by omega)) (Below.refl _ _) (Nat.le_refl _) ?_;intro v239 w8 ho9 hb hg_ hnew_;clear hg_ hnew_;(first | rw [← Ny238.out] at ho9 | (simp only [Int.reduceToNat] at ho9;rw [← Ny238.out] at ho9));have n0_ := aM (Kd.R_lower ho9 (below_size (by exact bB)));have n1_ := aM (kB hb BK236.out);have n2_ := aM (kB hb BK237.out);have n3_ := aM (below_step (by exact bB) hb);clear BK236;clear BK237;clear HB;have HO240 := n0_;have BK236 := n1_;have BK237 := n2_;have HB := n3_;clear n0_ n1_ n2_ n3_;clear hb ho9;obtain ⟨Ao10, co10, eo10⟩ := Kd.R_slice HO240.out;subst eo10) | ((with_reducible refine gate_dst (N := 3) rfl ?_);refine box_event ?hg (N := 3) ?hd (cs := #[.slice none 0 0]) (t := 56) ?hr ?_;(case hd => rfl);(case hg => rfl);(case hr => exact gS);intro gb241 hg w11 hbox hb;have n0_ := aM (Kd.R_below (by exact rP HO240.out) hb);have n1_ := aM (kB hb BK236.out);have n2_ := aM (kB hb BK237.out);have n3_ := aM (below_step (by exact bB) hb);have n4_ := aM (hbox);have n5_ := aM (sW hg : w.heap.size ≤ gb241);have n6_ := aM (sW hg : w.heap.size ≤ gb241);have n7_ := aM (nL hg (kP BK236.out));have n8_ := aM (nG hg (kP BK236.out));have n9_ := aM (nL hg (kP BK237.out));have n10_ := aM (nG hg (kP BK237.out));clear HO240;clear BK236;clear BK237;clear HB;have HO240 := n0_;have BK236 := n1_;have BK237 := n2_;have HB := n3_;have BK241 := n4_;have GW241 := n5_;have GE241 := n6_;have NB236_241 := n7_;have NB241_236 := n8_;have NB237_241 := n9_;have NB241_237 := n10_;clear n0_ n1_ n2_ n3_ n4_ n5_ n6_ n7_ n8_ n9_ n10_;clear hb hbox hg;have hnb12 := NB241_236.out;have hnc12 := NB236_241.out;have hnb13 := NB241_237.out;have hnc13 := NB237_241.out;have hcz14_0 := bC0 BK241.out;have hfz14_0 := blk_frozen BK241.out 0;have hcz15_0 := bC0 BK236.out;have hcz15_1 := bC1 BK236.out;have hfz15_0 := blk_frozen BK236.out 0;have hfz15_1 := blk_frozen BK236.out 1))
 go_loopw [13] (fun v13 w' => ∃ (x13_1 : Int) (x242000_1 : List Int) (u242000 : Value), v13 = .int .i64 x13_1 ∧ Aside0 (0 ≤ x13_1 ∧ x13_1 ≤ l0_1.length) ∧ Aside0 ((l0_1.drop x13_1.toNat).foldl netStep x242000_1 = r) ∧ Aside0 (x242000_1.length = a0_0.toNat) ∧ Aside0 (Kd.R (Kd.int .i64) 3 w' w.heap.size (fun _ => True) u242000 x242000_1) ∧ Aside0 (w'.heap[gb236]? = some (.cells #[.int .i64 a0_0, (.slice A0_1 l0_1.length c0_1)] 29 (0, 0))) ∧ Aside0 (w'.heap[gb237]? = some (.cells #[(.slice none 0 0)] 56 (0, 0))) ∧ Aside0 (w'.heap[gb241]? = some (.cells #[u242000] 56 (0, 0))) ∧ Aside0 (Below w.heap.size w w')) (fun v _ => l0_1.length - (intOf v).toNat)
 case atStart => exact ⟨(0), (y238), (.slice Ao10 y238.length co10), rfl, ⟨by omega, by omega⟩, ⟨H'.out⟩, HYL, ⟨by refine rP ?_;exact Kd.R_mono (Kd.R_far (p := ⟨gb241, 0, none⟩) (Kd.R_types HO240.out BK241.out (by decide)) (fun _ hk => hk.2) (.slice Ao10 y238.length co10)) (fun _ hk => trivial)⟩, ⟨by refine kP ?_;refine blk_far ?_ NB236_241.out _;exact kP BK236.out⟩, ⟨by refine kP ?_;refine blk_far ?_ NB237_241.out _;exact kP BK237.out⟩, ⟨by refine kP ?_;refine blk_put (cs := #[.slice none 0 0]) ?_ 0 _ rfl;exact kP BK241.out⟩, ⟨by exact bB⟩⟩
 case round =>
  clear H' HYL Ny238 HO240
  try clear c2
  try clear c2b0
  try clear c2b1
  try clear c3b0
  try clear c3b1
  obtain ⟨x13_1, x242000_1, u242000, rfl, HX, HF, HYL, HO_242000, BK236, BK237, BK241, HB⟩ := hrel
  by_cases hlt : x13_1 < (l0_1.length : Int)
  ·have hlt' : decide (x13_1 < (l0_1.length : Int)) = true := decide_eq_true hlt
   have p0 : 0 ≤ x13_1 := HX.out.1
   obtain ⟨ad, e, hx0, hx1⟩ := at_T78 HR0_1.out x13_1 p0 hlt
   cases e
   replace hx0 := (HB.out.cell (World.block_lt_of_cell? w _ hx0)).trans hx0
   replace hx1 := (HB.out.cell (World.block_lt_of_cell? w _ hx1)).trans hx1
   have HL := Aside0.mk hlt
   have hok := HE.out (rd_T78 l0_1 x13_1) (rd_mem p0 hlt)
   have HF2 : Aside0 ((l0_1.drop (x13_1 + 1).toNat).foldl netStep (netStep x242000_1 (rd_T78 l0_1 x13_1)) = r) := ⟨by rw [← HF.out];exact (foldl_at p0 hlt netStep x242000_1).symm⟩
   have HW1 : Aside0 (wrap64 (x13_1 + 1) = x13_1 + 1) := ⟨by have := HR0_1.out.2.1;unfold wrap64;omega⟩
   obtain ⟨e, he⟩ : ∃ e, e = rd_T78 l0_1 x13_1 := ⟨_, rfl⟩
   rw [← he] at hx0 hx1 hok HF2
   simp only [edgeOk, decide_eq_true_eq] at hok
   have hN := HN.out
   have hYL := HYL.out
   have i0 : 0 ≤ e.f0 := hok.1
   have i1 : e.f0 < (x242000_1.length : Int) := by omega
   have j0 : 0 ≤ e.f1 := by omega
   have j1 : e.f1 < (x242000_1.length : Int) := by omega
   have HOK := aM (show 0 ≤ e.f0 ∧ e.f0 < 8 ∧ 0 ≤ e.f1 ∧ e.f1 < 8 by omega)
   obtain ⟨f0, hf0⟩ : ∃ z, z = e.f0 := ⟨_, rfl⟩
   obtain ⟨f1, hf1⟩ : ∃ z, z = e.f1 := ⟨_, rfl⟩
   have HST : Aside0 (netStep x242000_1 e = ((x242000_1.set f0.toNat (Go.bits .or .i64 (rd x242000_1 f0) (shl .i64 1 f1))).set f1.toNat (Go.bits .or .i64 (rd (x242000_1.set f0.toNat (Go.bits .or .i64 (rd x242000_1 f0) (shl .i64 1 f1))) f1) (shl .i64 1 f0)))) := ⟨by rw [hf0, hf1];rfl⟩
   rw [← hf0] at hx0 i0 i1 HOK
   rw [← hf1] at hx1 j0 j1 HOK
   clear he hok hf0 hf1
   obtain ⟨go, co, eo, gb, gl, cl, HG⟩ := Kd.R_form HO_242000.out (by omega)
   cases eo
   have gne : go ≠ gb241 := fun hE => by
    have h1 := HG;rw [hE, BK241.out] at h1;simp at h1
   have gne' : gb241 ≠ go := fun hE => gne hE.symm
   have hcz3 := bC0 BK241.out
   have hb241 : gb241 < wr.heap.size := blk_lt BK241.out
   have GB := Aside0.mk gb
   have GL := Aside0.mk gl
   clear hN hYL hlt HG gb gl
   replace p0 := eq_true p0
   have hq0 := eq_true HL.out
   go_wp2
   generalize hw1 : (World.alloc wr _) = w1
   have BN : Aside0 (w1.heap[wr.heap.size]? = some (.cells #[.int .i64 f0, .int .i64 f1] 78 (0, 0))) := ⟨by rw [← hw1];exact blk_new wr _⟩
   have HB1 : Aside0 (Below w.heap.size w w1) := ⟨by rw [← hw1];exact below_alloc HB.out _⟩
   have BK1 : Aside0 (w1.heap[gb236]? = some (.cells #[.int .i64 a0_0, (.slice (some ad) l0_1.length c0_1)] 29 (0, 0))) := ⟨by rw [← hw1];exact blk_alloc BK236.out _⟩
   have BK2 : Aside0 (w1.heap[gb237]? = some (.cells #[(.slice none 0 0)] 56 (0, 0))) := ⟨by rw [← hw1];exact blk_alloc BK237.out _⟩
   have BK3 : Aside0 (w1.heap[gb241]? = some (.cells #[.slice (some ⟨go, 0, none⟩) x242000_1.length co] 56 (0, 0))) := ⟨by rw [← hw1];exact blk_alloc BK241.out _⟩
   have HO1 : Aside0 (Kd.R (Kd.int .i64) 3 w1 w.heap.size (fun _ => True) (.slice (some ⟨go, 0, none⟩) x242000_1.length co) x242000_1) := ⟨by rw [← hw1];exact Kd.R_alloc HO_242000.out _⟩
   have hbn : wr.heap.size ≠ go := by have := GL.out;omega
   have hbn' : go ≠ wr.heap.size := fun h => hbn h.symm
   have hbn3 : wr.heap.size ≠ gb241 := by omega
   generalize wr.heap.size = gn at BN hbn hbn' hbn3 ⊢
   clear hw1 hcz3 hx0 hx1 HO_242000 BK236 BK237 BK241 HB hb241
   have hb3 : gb241 < w1.heap.size := blk_lt BK3.out
   have c30 : w1.cell? ⟨gb241, 0, none⟩ = some (.slice (some ⟨go, 0, none⟩) x242000_1.length co) := (blk_cell BK3.out 0).trans rfl
   have cn0 : w1.cell? ⟨gn, 0, none⟩ = some (.int .i64 f0) := (blk_cell BN.out 0).trans rfl
   have cn1 : w1.cell? ⟨gn, 1, none⟩ = some (.int .i64 f1) := (blk_cell BN.out 1).trans rfl
   obtain ⟨cx0, cf0⟩ := Kd.R_celln 0 HO1.out f0 i0 i1
   have HP0 := Kd.R_putg HO1.out f0 (Go.bits .or .i64 (rd x242000_1 f0) (shl .i64 1 f1))
   refine still_tail_drew 11 (by kernel_rfl) (by kernel_rfl) ?_
   simp only [List.take_succ_cons, List.take_zero, List.drop_succ_cons, List.drop_zero]
   replace i0 := eq_true i0
   replace i1 := eq_true i1
   replace j0 := eq_true j0
   replace j1 := eq_true j1
   repeat still_step
   refine wpStill_nil ?_
   have hx1 := eq_true HL.out
   generalize hV0 : Go.bits .or .i64 (rdOf 0 x242000_1 f0) (IntKind.i64.wrap (2 ^ min f1.toNat 64)) = V0
   have HV0 := Aside0.mk hV0
   have HP := aM (Kd.R_putg HO1.out f0 V0).1
   clear hV0 HP0
   go_wp2
   generalize hw3 : (World.setCell _ _ _) = w3
   obtain ⟨ys, hys⟩ : ∃ ys, ys = x242000_1.set f0.toNat V0 := ⟨_, rfl⟩
   have HYS := Aside0.mk hys
   have HO3 : Aside0 (Kd.R (Kd.int .i64) 3 w3 w.heap.size (fun _ => True) (.slice (some ⟨go, 0, none⟩) ys.length co) ys) := ⟨by rw [← hw3, hys];have := HP.out;rw [List.length_set];exact this⟩
   have hyl : ys.length = x242000_1.length := by rw [hys];simp
   have HYL3 := Aside0.mk hyl
   have B3N : Aside0 (w3.heap[gn]? = some (.cells #[.int .i64 f0, .int .i64 f1] 78 (0, 0))) := ⟨by rw [← hw3];exact blk_far BN.out hbn _⟩
   have g236 : gb236 ≠ go := fun hE => by
    have h1 := HO1.out;have h2 := Kd.R_form h1 (by have := of_eq_true i1;have := of_eq_true i0;omega)
    obtain ⟨g', c', e', _, _, cl', hh'⟩ := h2;cases e';rw [← hE, BK1.out] at hh';simp at hh'
   have g237 : gb237 ≠ go := fun hE => by
    have h1 := HO1.out;have h2 := Kd.R_form h1 (by have := of_eq_true i1;have := of_eq_true i0;omega)
    obtain ⟨g', c', e', _, _, cl', hh'⟩ := h2;cases e';rw [← hE, BK2.out] at hh';simp at hh'
   have B31 : Aside0 (w3.heap[gb236]? = some (.cells #[.int .i64 a0_0, (.slice (some ad) l0_1.length c0_1)] 29 (0, 0))) := ⟨by rw [← hw3];exact blk_far BK1.out g236 _⟩
   have B32 : Aside0 (w3.heap[gb237]? = some (.cells #[(.slice none 0 0)] 56 (0, 0))) := ⟨by rw [← hw3];exact blk_far BK2.out g237 _⟩
   have B33 : Aside0 (w3.heap[gb241]? = some (.cells #[.slice (some ⟨go, 0, none⟩) ys.length co] 56 (0, 0))) := ⟨by rw [← hw3, hyl];exact blk_far BK3.out gne' _⟩
   have HB3 : Aside0 (Below w.heap.size w w3) := ⟨by rw [← hw3];exact below_set HB1.out GB.out⟩
   clear hw3 HP HO1 BN BK1 BK2 BK3 HB1 c30 cn0 cn1 cx0 cf0 hb3
   generalize hw4 : World.drew w3 = w4
   replace B3N : Aside0 (w4.heap[gn]? = some (.cells #[.int .i64 f0, .int .i64 f1] 78 (0, 0))) := ⟨by rw [← hw4];exact B3N.out⟩
   replace B31 : Aside0 (w4.heap[gb236]? = some (.cells #[.int .i64 a0_0, (.slice (some ad) l0_1.length c0_1)] 29 (0, 0))) := ⟨by rw [← hw4];exact B31.out⟩
   replace B32 : Aside0 (w4.heap[gb237]? = some (.cells #[(.slice none 0 0)] 56 (0, 0))) := ⟨by rw [← hw4];exact B32.out⟩
   replace B33 : Aside0 (w4.heap[gb241]? = some (.cells #[.slice (some ⟨go, 0, none⟩) ys.length co] 56 (0, 0))) := ⟨by rw [← hw4];exact B33.out⟩
   replace HB3 : Aside0 (Below w.heap.size w w4) := ⟨by rw [← hw4];exact below_drew HB3.out⟩
   replace HO3 : Aside0 (Kd.R (Kd.int .i64) 3 w4 w.heap.size (fun _ => True) (.slice (some ⟨go, 0, none⟩) ys.length co) ys) := ⟨by rw [← hw4];exact Kd.R_drew HO3.out⟩
   clear hw4 hys
   rw [← hyl] at i1 j1
   have hb3 : gb241 < w4.heap.size := blk_lt B33.out
   have c30 : w4.cell? ⟨gb241, 0, none⟩ = some (.slice (some ⟨go, 0, none⟩) ys.length co) := (blk_cell B33.out 0).trans rfl
   have cn0 : w4.cell? ⟨gn, 0, none⟩ = some (.int .i64 f0) := (blk_cell B3N.out 0).trans rfl
   have cn1 : w4.cell? ⟨gn, 1, none⟩ = some (.int .i64 f1) := (blk_cell B3N.out 1).trans rfl
   obtain ⟨cx0, cf0⟩ := Kd.R_celln 0 HO3.out f1 (of_eq_true j0) (of_eq_true j1)
   clear hyl
   refine still_tail_drew 11 (by kernel_rfl) (by kernel_rfl) ?_
   simp only [List.take_succ_cons, List.take_zero, List.drop_succ_cons, List.drop_zero]
   repeat still_step
   refine wpStill_nil ?_
   generalize hV1 : Go.bits .or .i64 (rdOf 0 ys f1) (IntKind.i64.wrap (2 ^ min f0.toNat 64)) = V1
   have HV1 := Aside0.mk hV1
   have HP := aM (Kd.R_putg HO3.out f1 V1).1
   clear hV1
   go_wp2
   go_roundw
   case rel =>
    refine ⟨x13_1 + 1, ys.set f1.toNat V1, _, by rw [HW1.out], ⟨by have := HX.out;have := HL.out;omega⟩, ⟨?_⟩, ⟨by rw [List.length_set, HYL3.out];exact HYL.out⟩, ⟨Kd.R_drew HP.out⟩, ⟨blk_drew (blk_far B31.out g236 _)⟩, ⟨blk_drew (blk_far B32.out g237 _)⟩, ⟨blk_drew (blk_far B33.out gne' _)⟩, ⟨below_drew (below_set HB3.out GB.out)⟩⟩
    rw [← HF2.out, HST.out, ← HV1.out, HYS.out, ← HV0.out]
    simp only [shl, Int.one_mul]
    rfl
   case measure => have := HL.out;have := HX.out;rw [HW1.out];simp [intOf];omega
  ·have hlt' : decide (x13_1 < (l0_1.length : Int)) = false := decide_eq_false hlt
   obtain rfl : x242000_1 = r := by have := HF.out;rw [List.drop_eq_nil_of_le (by omega)] at this;exact this
   clear hlt
   have hnb40 := NB241_236.out
   have hnc40 := NB236_241.out
   have hnb41 := NB241_237.out
   have hnc41 := NB237_241.out
   have hcz42_0 := bC0 BK241.out
   have hfz42_0 := blk_frozen BK241.out 0
   obtain ⟨Ao43, co43, eo43⟩ := Kd.R_slice HO_242000.out
   subst eo43
   have hnb44 := NB237_236.out
   have hnc44 := NB236_237.out
   have hcz45_0 := bC0 BK237.out
   have hfz45_0 := blk_frozen BK237.out 0
   go_wp2
   refine bodyPost_ret (results_cell_row rfl _ _ gb237 56 #[.slice Ao43 x242000_1.length co43] (0, 0) _ rfl (by refine kP ?_;refine blk_put (cs := #[.slice none 0 0]) ?_ 0 _ rfl;exact kP BK237.out) Tryd.underlying56 rfl (by kernel_rfl)) rfl ?_
   exact ⟨_, eW, by refine rP ?_;exact Kd.R_mono (Kd.R_far (p := ⟨gb237, 0, none⟩) (Kd.R_types HO_242000.out BK237.out (by decide)) (fun _ hk => hk.2) (.slice Ao43 x242000_1.length co43)) (fun _ hk => trivial), by exact bB⟩

/-! ### impl_net_size: function 60 -/
def impl_net_size.f (l0_0 : List Int) : Option (Int) := some (l0_0.length : Int)
theorem impl_net_size.calls (A0_0 : Option Addr) (c0_0 : Nat) (l0_0 : List Int) (r : Int) (w : World) (hr0_0 : Kd.C (Kd.int .i64) w A0_0 l0_0.length l0_0) (hc0_0 : l0_0.length ≤ c0_0) (h : impl_net_size.f l0_0 = some r) :
  Calls Tryd.prog 60 #[.agg #[.slice A0_0 l0_0.length c0_0]] w fun e w' => e = .returned (.int .i64 r) ∧ Below w.heap.size w w' := by
 have hu56 := Tryd.underlying56
 have HR0_0 := Aside0.mk hr0_0
 have HC0_0 := Aside0.mk hc0_0
 clear hr0_0 hc0_0
 have HB := aM (Below.refl w.heap.size w)
 have H : (some (l0_0.length : Int)) = some r := h
 clear h
 obtain rfl := Option.some.inj H
 go_enter Tryd.func60, Tryd.ntmps60
 go_wp2_with (first | ((with_reducible refine gate_dst (N := 1) rfl ?_);refine box_event ?hg (N := 1) ?hd (cs := #[.slice A0_0 l0_0.length c0_0]) (t := 56) ?hr ?_;(case hd => rfl);(case hg => rfl);(case hr => exact gS);intro gb410 hg w2 hbox hb;have n0_ := aM (below_step (by exact bB) hb);have n1_ := aM (hbox);have n2_ := aM (sW hg : w.heap.size ≤ gb410);have n3_ := aM (sW hg : w.heap.size ≤ gb410);clear HB;have HB := n0_;have BK410 := n1_;have GW410 := n2_;have GE410 := n3_;clear n0_ n1_ n2_ n3_;clear hb hbox hg;have hcz3_0 := bC0 BK410.out;have hfz3_0 := blk_frozen BK410.out 0))
 go_ret
 exact ⟨eW, by exact bB⟩


/-! ### impl_subsetsOf: function 83 -/
mutual
def impl_subsetsOf.l0 : Nat → List Int → Int → List (List Int) → Int → Int → Option ((List (List Int)))
 | 0, _, _, _, _, _ => none
 | k + 1, x0, x1, x5, x13, x14 => if x14 < x13 then (if 0 ≤ (wrap64 (x14 + 1)) then (if (wrap64 (x14 + 1)) ≤ (x0.length : Int) then ((impl_subsetsOf.f k (x0.drop ((wrap64 (x14 + 1)) : Int).toNat) (wrap64 (x1 - 1))).bind fun t415 => (impl_subsetsOf.l1 k x0 x1 x5 x14 x13 x14 t415 (t415.length : Int) 0)) else (none)) else (none)) else (some x5)
def impl_subsetsOf.l1 : Nat → List Int → Int → List (List Int) → Int → Int → Int → List (List Int) → Int → Int → Option ((List (List Int)))
 | 0, _, _, _, _, _, _, _, _, _ => none
 | k + 1, x0, x1, x5, x6, x13, x14, x23, x24, x25 => if x25 < x24 then (if 0 ≤ x25 then (if x25 < (x23.length : Int) then (if 0 ≤ x6 then (if x6 < (x0.length : Int) then ((some (([rd x0 x6] : List Int) : List Int)).bind fun y420 => (if y420.length + (rd_L2 x23 x25).length < 17592186044416 then (if x5.length < 5864062014805 then (impl_subsetsOf.l1 k x0 x1 (x5 ++ [(y420 ++ (rd_L2 x23 x25))]) x6 x13 x14 x23 x24 (wrap64 (x25 + 1))) else (none)) else (none))) else (none)) else (none)) else (none)) else (none)) else (impl_subsetsOf.l0 k x0 x1 x5 x13 (wrap64 (x14 + 1)))
def impl_subsetsOf.f : Nat → List Int → Int → Option ((List (List Int)))
 | 0, _, _ => none
 | k + 1, l0, a1 => if a1 = 0 then (some (([[]] : List (List Int)))) else (impl_subsetsOf.l0 k l0 a1 ([] : List (List Int)) (l0.length : Int) 0)
end
theorem impl_subsetsOf.mono_l : ∀ k, (∀ y0 y1, LeO (impl_subsetsOf.f k y0 y1) (impl_subsetsOf.f (k + 1) y0 y1)) ∧ (∀ y0 y1 y2 y3 y4, LeO (impl_subsetsOf.l0 k y0 y1 y2 y3 y4) (impl_subsetsOf.l0 (k + 1) y0 y1 y2 y3 y4)) ∧ (∀ y0 y1 y2 y3 y4 y5 y6 y7 y8, LeO (impl_subsetsOf.l1 k y0 y1 y2 y3 y4 y5 y6 y7 y8) (impl_subsetsOf.l1 (k + 1) y0 y1 y2 y3 y4 y5 y6 y7 y8))
 | 0 => ⟨fun _ _ r h => by simp [impl_subsetsOf.f] at h, fun _ _ _ _ _ r h => by simp [impl_subsetsOf.l0] at h, fun _ _ _ _ _ _ _ _ _ r h => by simp [impl_subsetsOf.l1] at h⟩
 | k + 1 => by
  obtain ⟨ih0, ih1, ih2⟩ := impl_subsetsOf.mono_l k
  refine ⟨?_, ?_, ?_⟩
  ·intro y0 y1
   unfold impl_subsetsOf.f
   exact lM
  ·intro y0 y1 y2 y3 y4
   unfold impl_subsetsOf.l0
   exact lM
  ·intro y0 y1 y2 y3 y4 y5 y6 y7 y8
   unfold impl_subsetsOf.l1
   exact lM
theorem impl_subsetsOf.mono : ∀ a0 a1 k, LeO (impl_subsetsOf.f k a0 a1) (impl_subsetsOf.f (k + 1) a0 a1) := by
 intro a0 a1 k
 obtain ⟨ih0, ih1, ih2⟩ := impl_subsetsOf.mono_l k
 exact ih0 a0 a1
theorem impl_subsetsOf.calls (k : Nat) : ∀ (A0 : Option Addr) (c0 : Nat) (l0 : List Int) (a1 : Int) (r : List (List Int)) (w : World) (hr0 : Kd.C (Kd.int .i64) w A0 l0.length l0) (hc0 : l0.length ≤ c0) (h : impl_subsetsOf.f k l0 a1 = some r),
  Calls Tryd.prog 83 #[.slice A0 l0.length c0, .int .i64 a1] w fun e w' => ∃ v0_ : Value, e = .returned (v0_) ∧ Kd.S (Kd.slice 3 (Kd.int .i64)) 36 w' w.heap.size (fun _ => True) v0_ r ∧ Below w.heap.size w w' := by
 induction k using Nat.strongRecOn with
 | _ k ih =>
 intro A0 c0 l0 a1 r w hr0 hc0 h
 cases k with
 | zero => exact absurd h (by simp [impl_subsetsOf.f])
 | succ k =>
 simp only [impl_subsetsOf.f] at h
 have HR0 := Aside0.mk hr0
 have HC0 := Aside0.mk hc0
 clear hr0 hc0
 have HB := aM (Below.refl w.heap.size w)
 have H : (if a1 = 0 then (some (([[]] : List (List Int)))) else (impl_subsetsOf.l0 k l0 a1 ([] : List (List Int)) (l0.length : Int) 0)) = some r := h
 clear h
 by_cases c3 : a1 = 0
 ·rw [if_pos c3] at H
  have c3b0 : (a1 == 0) = true := beq_iff_eq.mpr c3
  have c3b1 : (a1 != 0) = false := bne_eq_false_iff_eq.mpr c3
  clear c3
  obtain ⟨y411, hy411⟩ : ∃ y_ : List (List Int), y_ = (([[]] : List (List Int))) := ⟨_, rfl⟩
  replace H : (some y411) = some r := by first | (rw [hy411];with_reducible exact H) | (have H2_ := (Option.bind_some _ _).symm.trans H;rw [hy411];with_reducible exact H2_) | (have H2_ := (Option.bind_some _ _).symm.trans H;with_reducible exact H2_) | with_reducible exact H | (rw [hy411];exact H) | exact H
  have Ny411 := Aside0.mk hy411
  clear hy411
  obtain rfl := Option.some.inj H
  go_enter Tryd.func83, Tryd.ntmps83
  go_wp2_with (first | ((with_reducible refine gate_dst (N := 11) rfl ?_);refine Kd.S_lit (Kd.slice 3 (Kd.int .i64)) _ 36 ?hg (N := 11) ?hd (xs := ([[]] : List (List Int))) (inner := [.slice none 0 0]) (ok := fun _ => True) (okp := fun _ => True) ?hr ?hp (fun _ hk => hk) trivial (Below.refl _ _) (Nat.le_refl _) (by simp) ?_;(case hd => rfl);(case hg => rfl);(case hr => exact gS);(case hp => exact (Reps.one (show Kd.M (Kd.slice 3 (Kd.int .i64)) _ _ _ [] [.slice none 0 0] from ⟨_, rfl, Kd.R_nil _ _ _ _ _⟩) (Reps.none _ _)));intro v412 w4 ho5 hb hg_ hnew_;clear hg_ hnew_;(first | rw [← Ny411.out] at ho5 | (simp only [Int.reduceToNat] at ho5;rw [← Ny411.out] at ho5));have n0_ := aM (Kd.S_lower ho5 (below_size (by exact bB)));have n1_ := aM (below_step (by exact bB) hb);clear HB;have HO413 := n0_;have HB := n1_;clear n0_ n1_;clear hb ho5))
  go_ret
  exact ⟨_, eW, by (with_reducible repeat (first | apply Kd.S_alloc | apply Kd.S_drewN | apply Kd.S_drew));exact HO413.out, by exact bB⟩
 rw [if_neg c3] at H
 have c3b0 : (a1 == 0) = false := beq_eq_false_iff_ne.mpr c3
 have c3b1 : (a1 != 0) = true := bne_iff_ne.mpr c3
 have H' := Aside0.mk H
 clear H
 go_enter Tryd.func83, Tryd.ntmps83
 go_wp2
 go_loopg [5, 14] k (fun kq v5 v14 w' => ∃ (x5_1 : List (List Int)) (x14_1 : Int), v14 = .int .i64 x14_1 ∧ Aside0 (impl_subsetsOf.l0 kq l0 a1 x5_1 (l0.length : Int) x14_1 = some r) ∧ Aside0 (kq ≤ k) ∧ Aside0 (Kd.S (Kd.slice 3 (Kd.int .i64)) 36 w' w.heap.size (fun _ => True) v5 x5_1) ∧ Aside0 (Below w.heap.size w w'))
 case atStart => exact ⟨(([] : List (List Int))), (0), eF, H', ⟨Nat.le_refl _⟩, ⟨by first | exact Kd.S_nil _ _ _ _ _ | exact Kd.N_nil _ _ _ _ _ | exact Kd.V_nil _ _ _ _ _ | exact Kd.Q_nil _ _ _ _ _ | exact Kd.R_nil _ _ _ _ _⟩, ⟨by exact bB⟩⟩
 case round =>
  clear H'
  try clear p2
  try clear c3
  try clear c3b0
  try clear c3b1
  obtain ⟨x5_1, x14_1, rfl, HA, HK1, HO_5, HB⟩ := hrel
  cases gk with
  | zero => exact absurd HA.out (by simp [impl_subsetsOf.l0])
  | succ k1 =>
   have H := HA.out
   clear HA
   simp only [impl_subsetsOf.l0] at H
   by_cases c6 : x14_1 < (l0.length : Int)
   rotate_left
   ·rw [if_neg c6] at H
    have c6b0 : decide (x14_1 < (l0.length : Int)) = false := decide_eq_false c6
    clear c6
    obtain rfl := Option.some.inj H
    go_wp2
    go_ret
    exact ⟨_, eW, by (with_reducible repeat (first | apply Kd.S_alloc | apply Kd.S_drewN | apply Kd.S_drew));exact HO_5.out, by exact bB⟩
   rw [if_pos c6] at H
   have c6b0 : decide (x14_1 < (l0.length : Int)) = true := decide_eq_true c6
   clear c6
   obtain ⟨ji7, hji7⟩ : ∃ j_ : Int, (wrap64 (x14_1 + 1)) = j_ := ⟨_, rfl⟩
   replace H : (if 0 ≤ (ji7) then (if (ji7) ≤ (l0.length : Int) then ((impl_subsetsOf.f k1 (l0.drop ((ji7) : Int).toNat) (wrap64 (a1 - 1))).bind fun t415 => (impl_subsetsOf.l1 k1 l0 a1 x5_1 x14_1 (l0.length : Int) x14_1 t415 (t415.length : Int) 0)) else (none)) else (none)) = some r := by first | (rw [hji7] at H;exact H) | (simp only [hji7] at H ⊢;exact H)
   have hji7w : (IntKind.i64.wrap (x14_1 + 1)) = ji7 := (i64_w _).trans hji7
   by_cases c8 : 0 ≤ (ji7)
   rotate_left
   ·rw [if_neg c8] at H
    exact absurd H (by simp)
   rw [if_pos c8] at H
   have c8b0 := eq_true c8
   have c8b1 : decide (0 ≤ (ji7)) = true := decide_eq_true c8
   clear c8
   by_cases c9 : (ji7) ≤ (l0.length : Int)
   rotate_left
   ·rw [if_neg c9] at H
    exact absurd H (by simp)
   rw [if_pos c9] at H
   have c9b0 := eq_true c9
   have c9b1 : decide ((ji7) ≤ (l0.length : Int)) = true := decide_eq_true c9
   clear c9
   replace H := Option.bind_eq_some_iff.mp H
   obtain ⟨t415, A100, H⟩ := H
   try dsimp only at H
   have A10 := Aside0.mk A100
   clear A100
   have H' := Aside0.mk H
   clear H
   obtain ⟨i011, hi011, _, hsz11, _⟩ := info_parts info3
   obtain ⟨A11, hcut11, hA11, hC11⟩ := print_drop_of (P := Tryd.prog) (Value.int .i64) 0 36 3 .i64 Tryd.underlying36 hi011 hsz11 A0 c0 l0 (ji7) (oA) (oA) HC0.out
   have HR414 := aM (Kd.C_of_reads (h1 := fun _ => rfl) (hA11 _ (Kd.reads_of_C HR0.out)))
   have HC414 := Aside0.mk hC11
   clear hA11 hC11 hi011 hsz11
   go_wp2_with (first | ((with_reducible refine gate_callee (f := 83) rfl ?_);refine goesL_ (some 23) rfl rfl Tryd.func83 (by kernel_rfl) rfl #[.slice A11 (l0.drop ((ji7) : Int).toNat).length (c0 - (ji7).toNat), .int .i64 (wrap64 (a1 - 1))] rfl (by (try simp only [List.map_toArray, List.map_cons, List.map_nil]);first | done | (rw [show (l0.drop ((ji7) : Int).toNat).length = (l0.length - (ji7).toNat) from List.length_drop] <;> rfl) | (simp only [hji7];rfl) | rfl | (simp only [List.length_drop, List.length_take];rfl)) ?_;(with_reducible refine (ih k1 (by have := HK1.out;omega) _ _ (l0.drop ((ji7) : Int).toNat) (wrap64 (a1 - 1)) t415 _ ?side1 ?side2 A10.out).mono ?_);(case side1 => exact cP (Kd.C_below HR414.out HB.out));(case side2 => exact HC414.out);rintro e w12 ⟨v416, rfl, ho0, hb⟩;refine ⟨_, rfl, ?_⟩;have n0_ := aM (Kd.S_elder' (by exact tP HO_5.out) (Kd.S_base ho0) hb);have n1_ := aM (Kd.S_lower (Kd.S_new' ho0 (Kd.S_lt (by exact tP HO_5.out))) (below_size (by exact bB)));have n2_ := aM (below_step (by exact bB) hb);clear HO_5;clear HB;have HO_5 := n0_;have HO417 := n1_;have HB := n2_;clear n0_ n1_ n2_;(try clear hb);(try clear ho0);obtain ⟨Ao13, co13, eo13⟩ := Kd.S_slice HO417.out;subst eo13))
   go_loopg [5, 25] k1 (fun kq v5 v25 w' => ∃ (x5_2 : List (List Int)) (x25_2 : Int), v25 = .int .i64 x25_2 ∧ Aside0 (impl_subsetsOf.l1 kq l0 a1 x5_2 x14_1 (l0.length : Int) x14_1 t415 (t415.length : Int) x25_2 = some r) ∧ Aside0 (kq ≤ k1) ∧ Aside0 (Kd.S (Kd.slice 3 (Kd.int .i64)) 36 w' w.heap.size (fun k_ => some k_ ≠ ((.slice Ao13 t415.length co13) : Value).ownBlock) v5 x5_2) ∧ Aside0 (Kd.S (Kd.slice 3 (Kd.int .i64)) 36 w' w.heap.size (fun k_ => some k_ ≠ (v5 : Value).ownBlock) (.slice Ao13 t415.length co13) t415) ∧ Aside0 (Below w.heap.size w w'))
   case atStart => exact ⟨(x5_1), (0), eF, H', ⟨Nat.le_refl _⟩, ⟨by (with_reducible repeat (first | apply Kd.S_alloc | apply Kd.S_drewN | apply Kd.S_drew));exact Kd.S_mono HO_5.out (fun _ hk => hk.2)⟩, ⟨by (with_reducible repeat (first | apply Kd.S_alloc | apply Kd.S_drewN | apply Kd.S_drew));exact Kd.S_mono HO417.out (fun _ hk => hk.2)⟩, ⟨by exact bB⟩⟩
   case round =>
    clear H'
    try clear p2
    try clear c3
    try clear c3b0
    try clear c3b1
    try clear c6
    try clear c6b0
    try clear p6
    try clear c8
    try clear c8b0
    try clear c8b1
    try clear c9
    try clear c9b0
    try clear c9b1
    try clear p2
    obtain ⟨x5_2, x25_2, rfl, HA, HK2, HO_5, HO_23, HB⟩ := hrel
    cases gk with
    | zero => exact absurd HA.out (by simp [impl_subsetsOf.l1])
    | succ k2 =>
     have H := HA.out
     clear HA
     simp only [impl_subsetsOf.l1] at H
     by_cases c14 : x25_2 < (t415.length : Int)
     rotate_left
     ·rw [if_neg c14] at H
      have c14b0 : decide (x25_2 < (t415.length : Int)) = false := decide_eq_false c14
      clear c14
      have H' := Aside0.mk H
      clear H
      go_wp2
      go_roundg k2
      case measure => have := HK1.out;have := HK2.out;omega
      case rel => exact ⟨(x5_2), (wrap64 (x14_1 + 1)), eF, H', ⟨by have := HK1.out;have := HK2.out;omega⟩, ⟨by (with_reducible repeat (first | apply Kd.S_alloc | apply Kd.S_drewN | apply Kd.S_drew));exact Kd.S_mono HO_5.out (fun _ hk => trivial)⟩, ⟨by exact bB⟩⟩
     rw [if_pos c14] at H
     have c14b0 : decide (x25_2 < (t415.length : Int)) = true := decide_eq_true c14
     clear c14
     by_cases c15 : 0 ≤ x25_2
     rotate_left
     ·rw [if_neg c15] at H
      exact absurd H (by simp)
     rw [if_pos c15] at H
     have c15b0 : decide (0 ≤ x25_2) = true := decide_eq_true c15
     clear c15
     by_cases c16 : x25_2 < (t415.length : Int)
     rotate_left
     ·rw [if_neg c16] at H
      exact absurd H (by simp)
     rw [if_pos c16] at H
     have c16b0 : decide (x25_2 < (t415.length : Int)) = true := decide_eq_true c16
     clear c16
     by_cases c17 : 0 ≤ x14_1
     rotate_left
     ·rw [if_neg c17] at H
      exact absurd H (by simp)
     rw [if_pos c17] at H
     have c17b0 : decide (0 ≤ x14_1) = true := decide_eq_true c17
     clear c17
     by_cases c18 : x14_1 < (l0.length : Int)
     rotate_left
     ·rw [if_neg c18] at H
      exact absurd H (by simp)
     rw [if_pos c18] at H
     have c18b0 : decide (x14_1 < (l0.length : Int)) = true := decide_eq_true c18
     clear c18
     obtain ⟨y420, hy420⟩ : ∃ y_ : List Int, y_ = (([rd l0 x14_1] : List Int)) := ⟨_, rfl⟩
     replace H : (if y420.length + (rd_L2 t415 x25_2).length < 17592186044416 then (if x5_2.length < 5864062014805 then (impl_subsetsOf.l1 k2 l0 a1 (x5_2 ++ [(y420 ++ (rd_L2 t415 x25_2))]) x14_1 (l0.length : Int) x14_1 t415 (t415.length : Int) (wrap64 (x25_2 + 1))) else (none)) else (none)) = some r := by first | (rw [hy420];with_reducible exact H) | (have H2_ := (Option.bind_some _ _).symm.trans H;rw [hy420];with_reducible exact H2_) | (have H2_ := (Option.bind_some _ _).symm.trans H;with_reducible exact H2_) | with_reducible exact H | (rw [hy420];exact H) | exact H
     have Ny420 := Aside0.mk hy420
     clear hy420
     by_cases c19 : y420.length + (rd_L2 t415 x25_2).length < 17592186044416
     rotate_left
     ·rw [if_neg c19] at H
      exact absurd H (by simp)
     rw [if_pos c19] at H
     have LMc19 := Aside0.mk c19
     clear c19
     obtain ⟨y423, hy423⟩ : ∃ y_ : List Int, y_ = (y420 ++ (rd_L2 t415 x25_2)) := ⟨_, rfl⟩
     replace H : (if x5_2.length < 5864062014805 then (impl_subsetsOf.l1 k2 l0 a1 (x5_2 ++ [y423]) x14_1 (l0.length : Int) x14_1 t415 (t415.length : Int) (wrap64 (x25_2 + 1))) else (none)) = some r := by first | (rw [hy423];with_reducible exact H) | (have H2_ := (Option.bind_some _ _).symm.trans H;rw [hy423];with_reducible exact H2_) | (have H2_ := (Option.bind_some _ _).symm.trans H;with_reducible exact H2_) | with_reducible exact H | (rw [hy423];exact H) | exact H
     have Ny423 := Aside0.mk hy423
     clear hy423
     by_cases c20 : x5_2.length < 5864062014805
     rotate_left
     ·rw [if_neg c20] at H
      exact absurd H (by simp)
     rw [if_pos c20] at H
     have LMc20 := Aside0.mk c20
     clear c20
     obtain ⟨y426, hy426⟩ : ∃ y_ : List (List Int), y_ = (x5_2 ++ [y423]) := ⟨_, rfl⟩
     replace H : (impl_subsetsOf.l1 k2 l0 a1 y426 x14_1 (l0.length : Int) x14_1 t415 (t415.length : Int) (wrap64 (x25_2 + 1))) = some r := by first | (rw [hy426];with_reducible exact H) | (have H2_ := (Option.bind_some _ _).symm.trans H;rw [hy426];with_reducible exact H2_) | (have H2_ := (Option.bind_some _ _).symm.trans H;with_reducible exact H2_) | with_reducible exact H | (rw [hy426];exact H) | exact H
     have Ny426 := Aside0.mk hy426
     clear hy426
     have H' := Aside0.mk H
     clear H
     have p418 : 0 ≤ (x25_2 : Int) := oA
     have q418 : x25_2 < (t415.length : Int) := oA
     obtain ⟨ad418, A418_0, c418_0, e418, hx418_0, hl418_0, hi418_0⟩ := at_L2 (Kd.S_reads' HO_23.out).2.2 x25_2 p418 q418
     cases e418
     obtain ⟨ce418, hce418, hMe418, hcc418⟩ := Kd.S_get HO_23.out [] x25_2 p418 (by first | exact q418 | exact oA | (have e_ := (Kd.S_reads' HO_23.out).1;omega))
     obtain ⟨ve418_0, rfl, ge418_0⟩ := hMe418
     have hv418_0 := hcc418 0 _ rfl
     rw [Nat.add_zero, show ((Kd.slice 3 (Kd.int .i64))).sz = 1 from rfl, Nat.mul_one] at hv418_0
     replace hv418_0 := Option.some.inj (hv418_0.symm.trans hx418_0)
     rw [hv418_0] at ge418_0
     have HL418_0 := aM (show Kd.R (Kd.int .i64) 3 _ _ _ _ (rd_L2 t415 x25_2) from ge418_0)
     clear hv418_0 ge418_0
     clear hcc418 hce418
     have HR418_0 := Aside0.mk hi418_0
     have HC418_0 := Aside0.mk hl418_0
     clear hi418_0 hl418_0
     replace p418 := eq_true p418
     replace q418 := eq_true q418
     have p419 : 0 ≤ (x14_1 : Int) := oA
     have q419 : x14_1 < (l0.length : Int) := oA
     obtain ⟨ad419, e419, hx419_0⟩ := Kd.at_int HR0.out x14_1 p419 q419
     cases e419
     replace hx419_0 := (HB.out.cell (World.block_lt_of_cell? w _ hx419_0)).trans hx419_0
     replace p419 := eq_true p419
     replace q419 := eq_true q419
     go_wp2_with (first | ((with_reducible refine gate_dst (N := 34) rfl ?_);refine Kd.R_lit (Kd.int .i64) _ 3 ?hg (N := 34) ?hd (xs := ([rd l0 x14_1] : List Int)) (inner := [.int .i64 (rd l0 x14_1)]) (ok := fun _ => True) (okp := fun _ => True) ?hr ?hp (fun _ hk => hk) trivial (Below.refl _ _) (Nat.le_refl _) (by simp) ?_;(case hd => rfl);(case hg => rfl);(case hr => exact gS);(case hp => exact (Reps.one (show Kd.M (Kd.int .i64) _ _ _ (rd l0 x14_1) [.int .i64 (rd l0 x14_1)] from rfl) (Reps.none _ _)));intro v421 w21 ho22 hb hg_ hnew_;clear hg_ hnew_;(first | rw [← Ny420.out] at ho22 | (simp only [Int.reduceToNat] at ho22;rw [← Ny420.out] at ho22));have n0_ := aM (Kd.S_elder' (by exact tP HO_5.out) (Kd.R_base ho22) hb);have n1_ := aM (Kd.S_elder' (by exact tP HO_23.out) (Kd.R_base ho22) hb);have n2_ := aM (Kd.R_elder' (by exact rP HL418_0.out) (Kd.R_base ho22) hb);have n3_ := aM (Kd.R_lower (Kd.R_new' ho22 (Kd.R_lt (by exact rP HL418_0.out))) (below_size (by exact bB)));have n4_ := aM (Kd.C_below (by repeat (first | (with_reducible exact HR418_0.out) | (with_reducible refine Kd.C_alloc ?_ _) | (with_reducible refine Kd.C_drewN ?_ _) | (with_reducible refine Kd.C_drew ?_) | exact HR418_0.out)) hb);have n5_ := aM (below_step (by exact bB) hb);clear HO_5;clear HO_23;clear HL418_0;clear HR418_0;clear HB;have HO_5 := n0_;have HO_23 := n1_;have HL418_0 := n2_;have HO422 := n3_;have HR418_0 := n4_;have HB := n5_;clear n0_ n1_ n2_ n3_ n4_ n5_;clear hb ho22) | ((with_reducible refine gate_builtin (b := .append) (xs := #[.tmp 34, .tmp 35]) rfl ?_);at_builtin;refine Kd.R_append_rows (Kd.int .i64) (w0 := w) w.heap.size rfl (.tmp 34) (.tmp 35) 36 3 (.int .i64 0) 8 rfl Tryd.underlying36 info3 rfl (by decide) (by omega) v421 y420 (rd_L2 t415 x25_2) _ _ _ (fun k_ => some k_ ≠ (.slice A418_0 (rd_L2 t415 x25_2).length c418_0 : Value).ownBlock) (fun _ => False) rfl rfl ?aO ?aR (fun _ _ h => h) (fun _ h => h.elim) ?aF ?aB ?aS ?aL ?_;(case aR => exact cP (by repeat (first | (with_reducible exact HR418_0.out) | (with_reducible refine Kd.C_alloc ?_ _) | (with_reducible refine Kd.C_drewN ?_ _) | (with_reducible refine Kd.C_drew ?_) | exact HR418_0.out)));(case aB => exact (by exact bB));(case aF => exact (fun k_ hk => Kd.fresh' (Kd.R_lt (by exact rP HL418_0.out)) k_ hk));(case aO => exact (by refine rP ?_;exact Kd.R_mono HO422.out (fun _ hk => hk.2)));(case aS => exact (below_size (by exact bB)));(case aL => have := LMc19.out;omega);intro v424 w23 ho hb hg hat;rw [← Ny423.out] at ho;have n0_ := aM (Kd.S_after (ok := (fun k_ => some k_ ≠ (.slice (some ad418) t415.length co13 : Value).ownBlock)) (by exact tP HO_5.out) hg hat);have n1_ := aM (Kd.S_after (ok := (fun k_ => some k_ ≠ (u5 : Value).ownBlock)) (by exact tP HO_23.out) hg hat);have n2_ := aM (Kd.R_after (ok := (fun k_ => some k_ ≠ (u5 : Value).ownBlock ∧ some k_ ≠ (.slice (some ad418) t415.length co13 : Value).ownBlock)) (by exact rP HL418_0.out) hg hat);have n3_ := aM (hb);have n4_ := aM (ho);clear HO_5;clear HO_23;clear HL418_0;clear HB;clear HO422;have HO_5 := n0_;have HO_23 := n1_;have HL418_0 := n2_;have HB := n3_;have HO425 := n4_;clear n0_ n1_ n2_ n3_ n4_;clear ho hb hg hat;obtain ⟨Ao25, co25, eo25⟩ := Kd.R_slice HO425.out;subst eo25) | ((with_reducible refine gate_builtin (b := .append) (xs := #[.tmp 29, .tmp 37]) rfl ?_);at_builtin;refine Kd.S_append (Kd.slice 3 (Kd.int .i64)) (w0 := w) w.heap.size rfl (.tmp 29) (.tmp 37) 26 36 (.slice none 0 0) 24 rfl Tryd.underlying26 info36 rfl (by decide) (by omega) u5 x5_2 y423 [.slice Ao25 y423.length co25] (fun k_ => some k_ ≠ (.slice (some ad418) t415.length co13 : Value).ownBlock) (fun k_ => some k_ = (.slice Ao25 y423.length co25 : Value).ownBlock) rfl rfl ?aP (fun k_ hk_ => ((Kd.R_mono (ok' := fun k_ => ((fun k_ => some k_ ≠ (.slice (some ad418) t415.length co13 : Value).ownBlock)) k_ ∧ some k_ ≠ (u5 : Value).ownBlock) (Kd.R_apart' (Kd.R_apart' (HO425.out) (Kd.S_typed HO_23.out) (by decide)) (Kd.S_typed HO_5.out) (by decide)) (fun k_ hk => ⟨hk.1.2, hk.2⟩))).1 k_ hk_.symm) ?aF ?aO ?aB ?aS ?aL ?_;(case aP => exact Kd.M_row (Kd.R_mono (Kd.R_tight rfl (Kd.R_mono (ok' := fun k_ => ((fun k_ => some k_ ≠ (.slice (some ad418) t415.length co13 : Value).ownBlock)) k_ ∧ some k_ ≠ (u5 : Value).ownBlock) (Kd.R_apart' (Kd.R_apart' (HO425.out) (Kd.S_typed HO_23.out) (by decide)) (Kd.S_typed HO_5.out) (by decide)) (fun k_ hk => ⟨hk.1.2, hk.2⟩))) (fun _ h_ => h_)));(case aB => exact (by exact bB));(case aF => exact (fun k_ hk => Kd.fresh' (Kd.S_lt (by exact tP HO_23.out)) k_ hk));(case aO => exact (by (with_reducible repeat (first | apply Kd.S_alloc | apply Kd.S_drewN | apply Kd.S_drew));exact Kd.S_mono HO_5.out (fun k_ hk => ⟨hk.1, fun e_ => hk.2 e_⟩)));(case aS => exact (below_size (by exact bB)));(case aL => have := LMc20.out;omega);intro v427 w24 ho hb hg hat;rw [← Ny426.out] at ho;have n0_ := aM (Kd.S_after (ok := (fun k_ => some k_ ≠ (.slice Ao25 y423.length co25 : Value).ownBlock)) (by (with_reducible repeat (first | apply Kd.S_alloc | apply Kd.S_drewN | apply Kd.S_drew));exact Kd.S_mono HO_23.out (fun _ hk => ⟨hk.2, hk.1⟩)) hg hat);have n1_ := aM (Kd.R_after (ok := (fun k_ => some k_ ≠ (.slice (some ad418) t415.length co13 : Value).ownBlock ∧ some k_ ≠ (.slice Ao25 y423.length co25 : Value).ownBlock)) (by exact rP (Kd.R_mono HL418_0.out (fun _ hk => ⟨⟨hk.1.2, hk.2⟩, hk.1.1⟩))) hg hat);have n2_ := aM (hb);have n3_ := aM (ho);clear HO_23;clear HL418_0;clear HB;clear HO_5;clear HO425;have HO_23 := n0_;have HL418_0 := n1_;have HB := n2_;have HO428 := n3_;clear n0_ n1_ n2_ n3_;clear ho hb hg hat))
     go_roundg k2
     case measure => have := HK1.out;have := HK2.out;omega
     case rel => exact ⟨(y426), (wrap64 (x25_2 + 1)), eF, H', ⟨by have := HK1.out;have := HK2.out;omega⟩, ⟨by (with_reducible repeat (first | apply Kd.S_alloc | apply Kd.S_drewN | apply Kd.S_drew));exact HO428.out⟩, ⟨by (with_reducible repeat (first | apply Kd.S_alloc | apply Kd.S_drewN | apply Kd.S_drew));exact Kd.S_mono HO_23.out (fun _ hk => hk.2)⟩, ⟨by exact bB⟩⟩


/-! ### impl_setOf: function 84 -/
def impl_setOf.l0 : Nat → Int → List Int → Int → Option (List Int)
 | 0, _, _, _ => none
 | k + 1, x0, x3, x4 => if 0 ≤ x4 then (if (shr .i64 x0 x4) = 0 then (some x3) else (if (Go.bits .and .i64 (shr .i64 x0 x4) 1) = 1 then (if x3.length < 17592186044416 then (impl_setOf.l0 k x0 (x3 ++ [x4]) (wrap64 (x4 + 1))) else (none)) else (impl_setOf.l0 k x0 x3 (wrap64 (x4 + 1))))) else (none)
def impl_setOf.f (k : Nat) (a0 : Int) : Option (List Int) := impl_setOf.l0 k a0 ([] : List Int) 0
theorem impl_setOf.mono_l : ∀ k, (∀ y0 y1 y2, LeO (impl_setOf.l0 k y0 y1 y2) (impl_setOf.l0 (k + 1) y0 y1 y2))
 | 0 => fun _ _ _ r h => by simp [impl_setOf.l0] at h
 | k + 1 => by
  have ih0 := impl_setOf.mono_l k
  ·intro y0 y1 y2
   unfold impl_setOf.l0
   exact lM
theorem impl_setOf.mono : ∀ a0 k, LeO (impl_setOf.f k a0) (impl_setOf.f (k + 1) a0) := by
 intro a0 k
 have ih0 := impl_setOf.mono_l k
 unfold impl_setOf.f
 exact lM
theorem impl_setOf.calls (k : Nat) (a0 : Int) (r : List Int) (w : World) (h : impl_setOf.f k a0 = some r) :
  Calls Tryd.prog 84 #[.int .i64 a0] w fun e w' => ∃ v0_ : Value, e = .returned (v0_) ∧ Kd.R (Kd.int .i64) 3 w' w.heap.size (fun _ => True) v0_ r ∧ Below w.heap.size w w' := by
 have HB := aM (Below.refl w.heap.size w)
 have H : (impl_setOf.l0 k a0 ([] : List Int) 0) = some r := h
 clear h
 have H' := Aside0.mk H
 clear H
 go_enter Tryd.func84, Tryd.ntmps84
 go_wp2
 go_loopg [3, 4] k (fun kq v3 v4 w' => ∃ (x3_1 : List Int) (x4_1 : Int), v4 = .int .i64 x4_1 ∧ Aside0 (impl_setOf.l0 kq a0 x3_1 x4_1 = some r) ∧ Aside0 (kq ≤ k) ∧ Aside0 (Kd.R (Kd.int .i64) 3 w' w.heap.size (fun _ => True) v3 x3_1) ∧ Aside0 (Below w.heap.size w w'))
 case atStart => exact ⟨(([] : List Int)), (0), eF, H', ⟨Nat.le_refl _⟩, ⟨by first | exact Kd.R_nil _ _ _ _ _ | exact Kd.N_nil _ _ _ _ _ | exact Kd.V_nil _ _ _ _ _ | exact Kd.Q_nil _ _ _ _ _ | exact Kd.S_nil _ _ _ _ _⟩, ⟨by exact bB⟩⟩
 case round =>
  clear H'
  obtain ⟨x3_1, x4_1, rfl, HA, HK1, HO_3, HB⟩ := hrel
  cases gk with
  | zero => exact absurd HA.out (by simp [impl_setOf.l0])
  | succ k1 =>
   have H := HA.out
   clear HA
   simp only [impl_setOf.l0] at H
   by_cases c2 : 0 ≤ x4_1
   rotate_left
   ·rw [if_neg c2] at H
    exact absurd H (by simp)
   rw [if_pos c2] at H
   have c2b0 := eq_true c2
   have c2b1 : decide (0 ≤ x4_1) = true := decide_eq_true c2
   clear c2
   obtain ⟨ji3, hji3⟩ : ∃ j_ : Int, (shr .i64 a0 x4_1) = j_ := ⟨_, rfl⟩
   replace H : (if (ji3) = 0 then (some x3_1) else (if (Go.bits .and .i64 (ji3) 1) = 1 then (if x3_1.length < 17592186044416 then (impl_setOf.l0 k1 a0 (x3_1 ++ [x4_1]) (wrap64 (x4_1 + 1))) else (none)) else (impl_setOf.l0 k1 a0 x3_1 (wrap64 (x4_1 + 1))))) = some r := by first | (rw [hji3] at H;exact H) | (simp only [hji3] at H ⊢;exact H)
   have hji3_ : (a0 / 2 ^ min x4_1.toNat 64) = ji3 := hji3
   have hji3z : x4_1 ≤ 64 → (a0 / 2 ^ x4_1.toNat) = ji3 := shr_small hji3
   by_cases c4 : (ji3) = 0
   ·rw [if_pos c4] at H
    have c4b0 : ((ji3) == 0) = true := beq_iff_eq.mpr c4
    have c4b1 : ((ji3) != 0) = false := bne_eq_false_iff_eq.mpr c4
    clear c4
    obtain rfl := Option.some.inj H
    go_wp2
    go_ret
    exact ⟨_, by first | rfl | (simp [errW_none, errW_some] <;> rfl) | (simp only [← hji3];first | rfl | (simp [errW_none, errW_some] <;> rfl)) | (simp [*, errW_none, errW_some] <;> rfl), by exact rP HO_3.out, by exact bB⟩
   rw [if_neg c4] at H
   have c4b0 : ((ji3) == 0) = false := beq_eq_false_iff_ne.mpr c4
   have c4b1 : ((ji3) != 0) = true := bne_iff_ne.mpr c4
   have c5b0 := eq_true (oA : 0 ≤ x4_1)
   by_cases c7 : (Go.bits .and .i64 (ji3) 1) = 1
   rotate_left
   ·rw [if_neg c7] at H
    have c7b0 : ((Go.bits .and .i64 (ji3) 1) == 1) = false := beq_eq_false_iff_ne.mpr c7
    have c7b1 : ((Go.bits .and .i64 (ji3) 1) != 1) = true := bne_iff_ne.mpr c7
    have H' := Aside0.mk H
    clear H
    go_wp2
    go_roundg k1
    case measure => have := HK1.out;omega
    case rel => exact ⟨(x3_1), (wrap64 (x4_1 + 1)), eF, H', ⟨by have := HK1.out;omega⟩, ⟨by exact rP HO_3.out⟩, ⟨by exact bB⟩⟩
   rw [if_pos c7] at H
   have c7b0 : ((Go.bits .and .i64 (ji3) 1) == 1) = true := beq_iff_eq.mpr c7
   have c7b1 : ((Go.bits .and .i64 (ji3) 1) != 1) = false := bne_eq_false_iff_eq.mpr c7
   clear c7
   by_cases c8 : x3_1.length < 17592186044416
   rotate_left
   ·rw [if_neg c8] at H
    exact absurd H (by simp)
   rw [if_pos c8] at H
   have LMc8 := Aside0.mk c8
   clear c8
   obtain ⟨y429, hy429⟩ : ∃ y_ : List Int, y_ = (x3_1 ++ [x4_1]) := ⟨_, rfl⟩
   replace H : (impl_setOf.l0 k1 a0 y429 (wrap64 (x4_1 + 1))) = some r := by first | (rw [hy429];with_reducible exact H) | (have H2_ := (Option.bind_some _ _).symm.trans H;rw [hy429];with_reducible exact H2_) | (have H2_ := (Option.bind_some _ _).symm.trans H;with_reducible exact H2_) | with_reducible exact H | (rw [hy429];exact H) | exact H
   have Ny429 := Aside0.mk hy429
   clear hy429
   have H' := Aside0.mk H
   clear H
   go_wp2_with (first | ((with_reducible refine gate_builtin (b := .append) (xs := #[.tmp 16, .tmp 18]) rfl ?_);at_builtin;refine Kd.R_append (Kd.int .i64) (w0 := w) w.heap.size rfl (.tmp 16) (.tmp 18) 36 3 (.int .i64 0) 8 rfl Tryd.underlying36 info3 rfl (by decide) (by omega) u3 x3_1 x4_1 [.int .i64 x4_1] (fun _ => True) (fun _ => False) rfl rfl ?aP (fun _ hk => hk.elim) ?aF ?aO ?aB ?aS ?aL ?_;(case aP => exact rfl);(case aB => exact (by exact bB));(case aF => exact (fun _ _ => trivial));(case aO => exact (by exact rP HO_3.out));(case aS => exact (below_size (by exact bB)));(case aL => have := LMc8.out;omega);intro v430 w9 ho hb hg hat;rw [← Ny429.out] at ho;have n0_ := aM (hb);have n1_ := aM (ho);clear HB;clear HO_3;have HB := n0_;have HO431 := n1_;clear n0_ n1_;clear ho hb hg hat))
   go_roundg k1
   case measure => have := HK1.out;omega
   case rel => exact ⟨(y429), (wrap64 (x4_1 + 1)), eF, H', ⟨by have := HK1.out;omega⟩, ⟨by exact rP HO431.out⟩, ⟨by exact bB⟩⟩


/-! ### impl_guardSets: function 61 -/
def impl_guardSets.f (k : Nat) (a0 : Int) (a1 : Int) : Option ((List (List Int))) := if 0 ≤ a0 then ((impl_setOf.f k (wrap64 ((shl .i64 1 a0) - 1))).bind fun t432 => ((impl_subsetsOf.f k t432 a1).bind fun t435 => (some t435))) else (none)
theorem impl_guardSets.mono : ∀ a0 a1 k, LeO (impl_guardSets.f k a0 a1) (impl_guardSets.f (k + 1) a0 a1) := by
 intro a0 a1 k
 unfold impl_guardSets.f
 have q0 := impl_setOf.mono
 have q1 := impl_subsetsOf.mono
 exact lM
theorem impl_guardSets.calls (k : Nat) (a0 : Int) (a1 : Int) (r : List (List Int)) (w : World) (h : impl_guardSets.f k a0 a1 = some r) :
  Calls Tryd.prog 61 #[.int .i64 a0, .int .i64 a1] w fun e w' => ∃ v0_ : Value, e = .returned (v0_) ∧ Kd.S (Kd.slice 3 (Kd.int .i64)) 36 w' w.heap.size (fun _ => True) v0_ r ∧ Below w.heap.size w w' := by
 have HB := aM (Below.refl w.heap.size w)
 have H : (if 0 ≤ a0 then ((impl_setOf.f k (wrap64 ((shl .i64 1 a0) - 1))).bind fun t432 => ((impl_subsetsOf.f k t432 a1).bind fun t435 => (some t435))) else (none)) = some r := h
 clear h
 by_cases c3 : 0 ≤ a0
 rotate_left
 ·rw [if_neg c3] at H
  exact absurd H (by simp)
 rw [if_pos c3] at H
 have c3b0 := eq_true c3
 have c3b1 : decide (0 ≤ a0) = true := decide_eq_true c3
 clear c3
 obtain ⟨ji4, hji4⟩ : ∃ j_ : Int, (shl .i64 1 a0) = j_ := ⟨_, rfl⟩
 replace H : ((impl_setOf.f k (wrap64 ((ji4) - 1))).bind fun t432 => ((impl_subsetsOf.f k t432 a1).bind fun t435 => (some t435))) = some r := by first | (rw [hji4] at H;exact H) | (simp only [hji4] at H ⊢;exact H)
 have hji4_ : (IntKind.i64.wrap (1 * 2 ^ min a0.toNat 64)) = ji4 := hji4
 have hji4z : a0 ≤ 64 → (IntKind.i64.wrap (1 * 2 ^ a0.toNat)) = ji4 := shl_small hji4
 have hji4u : (IntKind.i64.wrap (2 ^ min a0.toNat 64)) = ji4 := by have h_ := hji4_;rw [Int.one_mul] at h_;exact h_
 have hji4v : a0 ≤ 64 → (IntKind.i64.wrap (2 ^ a0.toNat)) = ji4 := fun hle_ => by have h_ := hji4z hle_;rw [Int.one_mul] at h_;exact h_
 have hji4y : (wrap64 (1 * 2 ^ min a0.toNat 64)) = ji4 := (i64_w _).symm.trans hji4_
 have hji4x : a0 ≤ 64 → (wrap64 (1 * 2 ^ a0.toNat)) = ji4 := fun h_ => (i64_w _).symm.trans (hji4z h_)
 replace H := Option.bind_eq_some_iff.mp H
 obtain ⟨t432, A50, H⟩ := H
 try dsimp only at H
 have A5 := Aside0.mk A50
 clear A50
 replace H := Option.bind_eq_some_iff.mp H
 obtain ⟨t435, A60, H⟩ := H
 try dsimp only at H
 have A6 := Aside0.mk A60
 clear A60
 obtain rfl := Option.some.inj H
 go_enter Tryd.func61, Tryd.ntmps61
 go_wp2_with (first | ((with_reducible refine gate_callee (f := 84) rfl ?_);refine goesL_ (some 8) rfl rfl Tryd.func84 (by kernel_rfl) rfl #[.int .i64 (wrap64 ((ji4) - 1))] rfl (by (try simp only [List.map_toArray, List.map_cons, List.map_nil]);first | done | (simp only [hji4];rfl) | rfl | (simp only [List.length_drop, List.length_take];rfl)) ?_;(with_reducible refine (impl_setOf.calls k (wrap64 ((ji4) - 1)) t432 _ A5.out).mono ?_);rintro e w7 ⟨v433, rfl, ho0, hb⟩;refine ⟨_, rfl, ?_⟩;have n0_ := aM (Kd.R_lower ho0 (below_size (by exact bB)));have n1_ := aM (below_step (by exact bB) hb);clear HB;have HO434 := n0_;have HB := n1_;clear n0_ n1_;(try clear hb);(try clear ho0);obtain ⟨Ao8, co8, eo8⟩ := Kd.R_slice HO434.out;subst eo8) | ((with_reducible refine gate_callee (f := 83) rfl ?_);refine goesL_ (some 10) rfl rfl Tryd.func83 (by kernel_rfl) rfl #[.slice Ao8 t432.length co8, .int .i64 a1] rfl mM ?_;(with_reducible refine (impl_subsetsOf.calls k _ _ t432 a1 t435 _ ?side1 ?side2 A6.out).mono ?_);(case side1 => exact cP (Kd.R_reads' HO434.out).2.2);(case side2 => exact (Kd.R_reads' HO434.out).2.1);rintro e w9 ⟨v436, rfl, ho0, hb⟩;refine ⟨_, rfl, ?_⟩;have n0_ := aM (Kd.R_below (by exact rP HO434.out) hb);have n1_ := aM (Kd.S_lower (Kd.S_new' ho0 (Kd.R_lt (by exact rP HO434.out))) (below_size (by exact bB)));have n2_ := aM (below_step (by exact bB) hb);clear HO434;clear HB;have HO434 := n0_;have HO437 := n1_;have HB := n2_;clear n0_ n1_ n2_;(try clear hb);(try clear ho0)))
 go_ret
 exact ⟨_, by first | rfl | (simp [errW_none, errW_some] <;> rfl) | (simp only [← hji4];first | rfl | (simp [errW_none, errW_some] <;> rfl)) | (simp [*, errW_none, errW_some] <;> rfl), by (with_reducible repeat (first | apply Kd.S_alloc | apply Kd.S_drewN | apply Kd.S_drew));exact Kd.S_mono HO437.out (fun _ hk => trivial), by exact bB⟩


/-! ### bits_OnesCount64: function 95 -/
def bits_OnesCount64.f (a0 : Int) : Option (Int) := some (Go.bits .and .i64 (wrap64 (IntKind.u64.wrap ((IntKind.u64.wrap ((IntKind.u64.wrap ((Go.bits .and .u64 (IntKind.u64.wrap (((IntKind.u64.wrap ((Go.bits .and .u64 ((IntKind.u64.wrap ((Go.bits .and .u64 (a0 / 2) 6148914691236517205) + (Go.bits .and .u64 a0 6148914691236517205))) / 4) 3689348814741910323) + (Go.bits .and .u64 (IntKind.u64.wrap ((Go.bits .and .u64 (a0 / 2) 6148914691236517205) + (Go.bits .and .u64 a0 6148914691236517205))) 3689348814741910323))) / 16) + (IntKind.u64.wrap ((Go.bits .and .u64 ((IntKind.u64.wrap ((Go.bits .and .u64 (a0 / 2) 6148914691236517205) + (Go.bits .and .u64 a0 6148914691236517205))) / 4) 3689348814741910323) + (Go.bits .and .u64 (IntKind.u64.wrap ((Go.bits .and .u64 (a0 / 2) 6148914691236517205) + (Go.bits .and .u64 a0 6148914691236517205))) 3689348814741910323))))) 1085102592571150095) + ((Go.bits .and .u64 (IntKind.u64.wrap (((IntKind.u64.wrap ((Go.bits .and .u64 ((IntKind.u64.wrap ((Go.bits .and .u64 (a0 / 2) 6148914691236517205) + (Go.bits .and .u64 a0 6148914691236517205))) / 4) 3689348814741910323) + (Go.bits .and .u64 (IntKind.u64.wrap ((Go.bits .and .u64 (a0 / 2) 6148914691236517205) + (Go.bits .and .u64 a0 6148914691236517205))) 3689348814741910323))) / 16) + (IntKind.u64.wrap ((Go.bits .and .u64 ((IntKind.u64.wrap ((Go.bits .and .u64 (a0 / 2) 6148914691236517205) + (Go.bits .and .u64 a0 6148914691236517205))) / 4) 3689348814741910323) + (Go.bits .and .u64 (IntKind.u64.wrap ((Go.bits .and .u64 (a0 / 2) 6148914691236517205) + (Go.bits .and .u64 a0 6148914691236517205))) 3689348814741910323))))) 1085102592571150095) / 256))) + ((IntKind.u64.wrap ((Go.bits .and .u64 (IntKind.u64.wrap (((IntKind.u64.wrap ((Go.bits .and .u64 ((IntKind.u64.wrap ((Go.bits .and .u64 (a0 / 2) 6148914691236517205) + (Go.bits .and .u64 a0 6148914691236517205))) / 4) 3689348814741910323) + (Go.bits .and .u64 (IntKind.u64.wrap ((Go.bits .and .u64 (a0 / 2) 6148914691236517205) + (Go.bits .and .u64 a0 6148914691236517205))) 3689348814741910323))) / 16) + (IntKind.u64.wrap ((Go.bits .and .u64 ((IntKind.u64.wrap ((Go.bits .and .u64 (a0 / 2) 6148914691236517205) + (Go.bits .and .u64 a0 6148914691236517205))) / 4) 3689348814741910323) + (Go.bits .and .u64 (IntKind.u64.wrap ((Go.bits .and .u64 (a0 / 2) 6148914691236517205) + (Go.bits .and .u64 a0 6148914691236517205))) 3689348814741910323))))) 1085102592571150095) + ((Go.bits .and .u64 (IntKind.u64.wrap (((IntKind.u64.wrap ((Go.bits .and .u64 ((IntKind.u64.wrap ((Go.bits .and .u64 (a0 / 2) 6148914691236517205) + (Go.bits .and .u64 a0 6148914691236517205))) / 4) 3689348814741910323) + (Go.bits .and .u64 (IntKind.u64.wrap ((Go.bits .and .u64 (a0 / 2) 6148914691236517205) + (Go.bits .and .u64 a0 6148914691236517205))) 3689348814741910323))) / 16) + (IntKind.u64.wrap ((Go.bits .and .u64 ((IntKind.u64.wrap ((Go.bits .and .u64 (a0 / 2) 6148914691236517205) + (Go.bits .and .u64 a0 6148914691236517205))) / 4) 3689348814741910323) + (Go.bits .and .u64 (IntKind.u64.wrap ((Go.bits .and .u64 (a0 / 2) 6148914691236517205) + (Go.bits .and .u64 a0 6148914691236517205))) 3689348814741910323))))) 1085102592571150095) / 256))) / 65536))) + ((IntKind.u64.wrap ((IntKind.u64.wrap ((Go.bits .and .u64 (IntKind.u64.wrap (((IntKind.u64.wrap ((Go.bits .and .u64 ((IntKind.u64.wrap ((Go.bits .and .u64 (a0 / 2) 6148914691236517205) + (Go.bits .and .u64 a0 6148914691236517205))) / 4) 3689348814741910323) + (Go.bits .and .u64 (IntKind.u64.wrap ((Go.bits .and .u64 (a0 / 2) 6148914691236517205) + (Go.bits .and .u64 a0 6148914691236517205))) 3689348814741910323))) / 16) + (IntKind.u64.wrap ((Go.bits .and .u64 ((IntKind.u64.wrap ((Go.bits .and .u64 (a0 / 2) 6148914691236517205) + (Go.bits .and .u64 a0 6148914691236517205))) / 4) 3689348814741910323) + (Go.bits .and .u64 (IntKind.u64.wrap ((Go.bits .and .u64 (a0 / 2) 6148914691236517205) + (Go.bits .and .u64 a0 6148914691236517205))) 3689348814741910323))))) 1085102592571150095) + ((Go.bits .and .u64 (IntKind.u64.wrap (((IntKind.u64.wrap ((Go.bits .and .u64 ((IntKind.u64.wrap ((Go.bits .and .u64 (a0 / 2) 6148914691236517205) + (Go.bits .and .u64 a0 6148914691236517205))) / 4) 3689348814741910323) + (Go.bits .and .u64 (IntKind.u64.wrap ((Go.bits .and .u64 (a0 / 2) 6148914691236517205) + (Go.bits .and .u64 a0 6148914691236517205))) 3689348814741910323))) / 16) + (IntKind.u64.wrap ((Go.bits .and .u64 ((IntKind.u64.wrap ((Go.bits .and .u64 (a0 / 2) 6148914691236517205) + (Go.bits .and .u64 a0 6148914691236517205))) / 4) 3689348814741910323) + (Go.bits .and .u64 (IntKind.u64.wrap ((Go.bits .and .u64 (a0 / 2) 6148914691236517205) + (Go.bits .and .u64 a0 6148914691236517205))) 3689348814741910323))))) 1085102592571150095) / 256))) + ((IntKind.u64.wrap ((Go.bits .and .u64 (IntKind.u64.wrap (((IntKind.u64.wrap ((Go.bits .and .u64 ((IntKind.u64.wrap ((Go.bits .and .u64 (a0 / 2) 6148914691236517205) + (Go.bits .and .u64 a0 6148914691236517205))) / 4) 3689348814741910323) + (Go.bits .and .u64 (IntKind.u64.wrap ((Go.bits .and .u64 (a0 / 2) 6148914691236517205) + (Go.bits .and .u64 a0 6148914691236517205))) 3689348814741910323))) / 16) + (IntKind.u64.wrap ((Go.bits .and .u64 ((IntKind.u64.wrap ((Go.bits .and .u64 (a0 / 2) 6148914691236517205) + (Go.bits .and .u64 a0 6148914691236517205))) / 4) 3689348814741910323) + (Go.bits .and .u64 (IntKind.u64.wrap ((Go.bits .and .u64 (a0 / 2) 6148914691236517205) + (Go.bits .and .u64 a0 6148914691236517205))) 3689348814741910323))))) 1085102592571150095) + ((Go.bits .and .u64 (IntKind.u64.wrap (((IntKind.u64.wrap ((Go.bits .and .u64 ((IntKind.u64.wrap ((Go.bits .and .u64 (a0 / 2) 6148914691236517205) + (Go.bits .and .u64 a0 6148914691236517205))) / 4) 3689348814741910323) + (Go.bits .and .u64 (IntKind.u64.wrap ((Go.bits .and .u64 (a0 / 2) 6148914691236517205) + (Go.bits .and .u64 a0 6148914691236517205))) 3689348814741910323))) / 16) + (IntKind.u64.wrap ((Go.bits .and .u64 ((IntKind.u64.wrap ((Go.bits .and .u64 (a0 / 2) 6148914691236517205) + (Go.bits .and .u64 a0 6148914691236517205))) / 4) 3689348814741910323) + (Go.bits .and .u64 (IntKind.u64.wrap ((Go.bits .and .u64 (a0 / 2) 6148914691236517205) + (Go.bits .and .u64 a0 6148914691236517205))) 3689348814741910323))))) 1085102592571150095) / 256))) / 65536))) / 4294967296)))) 127)
theorem bits_OnesCount64.calls (a0 : Int) (r : Int) (w : World) (h : bits_OnesCount64.f a0 = some r) :
  Calls Tryd.prog 95 #[.int .u64 a0] w fun e w' => e = .returned (.int .i64 r) ∧ Drawn0 w w' := by
 have H := h
 unfold bits_OnesCount64.f at H
 clear h
 obtain rfl := Option.some.inj H
 go_enter Tryd.func95, Tryd.ntmps95
 go_wp2
 go_ret
 exact ⟨eF, dR⟩


/-! ### bits_OnesCount: function 85 -/
def bits_OnesCount.f (a0 : Int) : Option (Int) := (bits_OnesCount64.f a0).bind fun t438 => (some t438)
theorem bits_OnesCount.calls (a0 : Int) (r : Int) (w : World) (h : bits_OnesCount.f a0 = some r) :
  Calls Tryd.prog 85 #[.int .u64 a0] w fun e w' => e = .returned (.int .i64 r) ∧ Drawn0 w w' := by
 have H : ((bits_OnesCount64.f a0).bind fun t438 => (some t438)) = some r := h
 clear h
 replace H := Option.bind_eq_some_iff.mp H
 obtain ⟨t438, A20, H⟩ := H
 try dsimp only at H
 have A2 := Aside0.mk A20
 clear A20
 obtain rfl := Option.some.inj H
 go_enter Tryd.func85, Tryd.ntmps85
 go_wp2_with (first | ((with_reducible refine gate_callee (f := 95) rfl ?_);refine goesL_ (some 7) rfl rfl Tryd.func95 (by kernel_rfl) rfl #[.int .u64 a0] rfl mM ?_;(with_reducible refine (bits_OnesCount64.calls a0 t438 _ A2.out).mono ?_);rintro e w' ⟨rfl, ⟨nd, rfl⟩⟩;refine ⟨_, rfl, ?_⟩))
 go_ret
 exact ⟨eF, dR⟩


/-! ### bits_TrailingZeros: function 86 -/
section
open Go.Shelf
def Tryd.lays27_ren : Go.Shelf.Ren := ⟨fun | 27 => 86 | 28 => 96 | 29 => 97 | n => n, fun | 25 => 100 | 3 => 3 | 27 => 106 | 22 => 108 | 4 => 4 | 53 => 115 | 0 => 0 | 5 => 5 | 54 => 116 | n => n, fun | 0 => 0 | 1 => 1 | n => n⟩
theorem Tryd.lays27 : Go.Proofs.Lays7.n27 Tryd.prog Tryd.lays27_ren := {
 mixed := by kernel_rfl
 f27 := Tryd.func86.trans (congrArg some (by kernel_rfl))
 f28 := Tryd.func96.trans (congrArg some (by kernel_rfl))
 f29 := Tryd.func97.trans (congrArg some (by kernel_rfl))
 t0 := Tryd.underlying0
 a0 := Tryd.isAgg0
 z0 := Tryd.sizeOf0
 v0 := Tryd.zeroValue0
 i0 := by kernel_rfl
 t3 := Tryd.underlying3
 a3 := Tryd.isAgg3
 z3 := Tryd.sizeOf3
 v3 := Tryd.zeroValue3
 i3 := by kernel_rfl
 t4 := Tryd.underlying4
 a4 := Tryd.isAgg4
 z4 := Tryd.sizeOf4
 v4 := Tryd.zeroValue4
 i4 := by kernel_rfl
 t5 := Tryd.underlying5
 a5 := Tryd.isAgg5
 z5 := Tryd.sizeOf5
 v5 := Tryd.zeroValue5
 i5 := by kernel_rfl
 t22 := Tryd.underlying108
 a22 := Tryd.isAgg108
 z22 := Tryd.sizeOf108
 v22 := Tryd.zeroValue108
 i22 := by kernel_rfl
 t25 := Tryd.underlying100
 a25 := Tryd.isAgg100
 z25 := Tryd.sizeOf100
 v25 := Tryd.zeroValue100
 i25 := by kernel_rfl
 t27 := Tryd.underlying106
 a27 := Tryd.isAgg106
 z27 := Tryd.sizeOf106
 v27 := Tryd.zeroValue106
 i27 := by kernel_rfl
 t53 := Tryd.underlying115
 a53 := Tryd.isAgg115
 z53 := Tryd.sizeOf115
 v53 := Tryd.zeroValue115
 i53 := by kernel_rfl
 t54 := Tryd.underlying116
 a54 := Tryd.isAgg116
 z54 := Tryd.sizeOf116
 g0 := by kernel_rfl
 g1 := by kernel_rfl }

end
def TabG (w : World) : Prop := Go.Proofs.TabAt 1 Go.Lib.deBruijn64tab w
theorem tabG_below {w w1 : World} (h : TabG w) (hb : Below w.heap.size w w1) : TabG w1 := fun j hj => pw_cell_below hb (h j hj)
def bits_TrailingZeros.f (a0 : Int) : Option (Int) := if 0 ≤ a0 ∧ a0 < 18446744073709551616 then some ((Go.Lib.ctz 64 a0.toNat : Nat) : Int) else none
theorem bits_TrailingZeros.calls (a0 : Int) (r : Int) (w : World) (hT : TabG w) (h : bits_TrailingZeros.f a0 = some r) :
  Calls Tryd.prog 86 #[.int .u64 a0] w fun e w' => e = .returned (.int .i64 r) ∧ Below w.heap.size w w' := by
 unfold bits_TrailingZeros.f at h
 split at h
 ·rename_i hc
  obtain rfl := Option.some.inj h
  have hcon := Go.Proofs.Any7.bits_TrailingZeros Tryd.lays27 a0.toNat (by omega) w (fun _ => hT)
  change Calls Tryd.prog 86 _ _ _ at hcon
  rw [show ((a0.toNat : Nat) : Int) = a0 by omega] at hcon
  refine hcon.mono ?_
  rintro e w' ⟨rfl, rfl⟩
  exact ⟨rfl, Below.refl _ _⟩
 ·cases h

/-! ### impl_net_closed: function 98 -/
def impl_net_closed.f (l0_0 : List Int) (a1 : Int) : Option (Int) := if 0 ≤ a1 then (if a1 < (l0_0.length : Int) then (some (Go.bits .or .i64 (rd l0_0 a1) (shl .i64 1 a1))) else (none)) else (none)
theorem impl_net_closed.calls (A0_0 : Option Addr) (c0_0 : Nat) (l0_0 : List Int) (a1 : Int) (r : Int) (w : World) (hr0_0 : Kd.C (Kd.int .i64) w A0_0 l0_0.length l0_0) (hc0_0 : l0_0.length ≤ c0_0) (h : impl_net_closed.f l0_0 a1 = some r) :
  Calls Tryd.prog 98 #[.agg #[.slice A0_0 l0_0.length c0_0], .int .i64 a1] w fun e w' => e = .returned (.int .i64 r) ∧ Below w.heap.size w w' := by
 have hu56 := Tryd.underlying56
 have HR0_0 := Aside0.mk hr0_0
 have HC0_0 := Aside0.mk hc0_0
 clear hr0_0 hc0_0
 have HB := aM (Below.refl w.heap.size w)
 have H : (if 0 ≤ a1 then (if a1 < (l0_0.length : Int) then (some (Go.bits .or .i64 (rd l0_0 a1) (shl .i64 1 a1))) else (none)) else (none)) = some r := h
 clear h
 by_cases c3 : 0 ≤ a1
 rotate_left
 ·rw [if_neg c3] at H
  exact absurd H (by simp)
 rw [if_pos c3] at H
 have c3b0 : decide (0 ≤ a1) = true := decide_eq_true c3
 clear c3
 by_cases c4 : a1 < (l0_0.length : Int)
 rotate_left
 ·rw [if_neg c4] at H
  exact absurd H (by simp)
 rw [if_pos c4] at H
 have c4b0 : decide (a1 < (l0_0.length : Int)) = true := decide_eq_true c4
 clear c4
 have c5b0 := eq_true (oA : 0 ≤ a1)
 obtain ⟨ji6, hji6⟩ : ∃ j_ : Int, (shl .i64 1 a1) = j_ := ⟨_, rfl⟩
 replace H : (some (Go.bits .or .i64 (rd l0_0 a1) (ji6))) = some r := by first | (rw [hji6] at H;exact H) | (simp only [hji6] at H ⊢;exact H)
 have hji6_ : (IntKind.i64.wrap (1 * 2 ^ min a1.toNat 64)) = ji6 := hji6
 have hji6z : a1 ≤ 64 → (IntKind.i64.wrap (1 * 2 ^ a1.toNat)) = ji6 := shl_small hji6
 have hji6u : (IntKind.i64.wrap (2 ^ min a1.toNat 64)) = ji6 := by have h_ := hji6_;rw [Int.one_mul] at h_;exact h_
 have hji6v : a1 ≤ 64 → (IntKind.i64.wrap (2 ^ a1.toNat)) = ji6 := fun hle_ => by have h_ := hji6z hle_;rw [Int.one_mul] at h_;exact h_
 have hji6y : (wrap64 (1 * 2 ^ min a1.toNat 64)) = ji6 := (i64_w _).symm.trans hji6_
 have hji6x : a1 ≤ 64 → (wrap64 (1 * 2 ^ a1.toNat)) = ji6 := fun h_ => (i64_w _).symm.trans (hji6z h_)
 obtain rfl := Option.some.inj H
 go_enter Tryd.func98, Tryd.ntmps98
 go_wp2_with (first | ((with_reducible refine gate_dst (N := 2) rfl ?_);refine box_event ?hg (N := 2) ?hd (cs := #[.slice A0_0 l0_0.length c0_0]) (t := 56) ?hr ?_;(case hd => rfl);(case hg => rfl);(case hr => exact gS);intro gb442 hg w7 hbox hb;have n0_ := aM (below_step (by exact bB) hb);have n1_ := aM (hbox);have n2_ := aM (sW hg : w.heap.size ≤ gb442);have n3_ := aM (sW hg : w.heap.size ≤ gb442);clear HB;have HB := n0_;have BK442 := n1_;have GW442 := n2_;have GE442 := n3_;clear n0_ n1_ n2_ n3_;clear hb hbox hg;have hcz8_0 := bC0 BK442.out;have hfz8_0 := blk_frozen BK442.out 0;have p443 : 0 ≤ (a1 : Int) := oA;have q443 : a1 < (l0_0.length : Int) := oA;obtain ⟨ad443, e443, hx443_0⟩ := Kd.at_int HR0_0.out a1 p443 q443;cases e443;replace hx443_0 := (HB.out.cell (World.block_lt_of_cell? w _ hx443_0)).trans hx443_0;replace p443 := eq_true p443;replace q443 := eq_true q443))
 repeat (go_quiet (first | ((with_reducible refine gate_dst (N := 2) rfl ?_);refine box_event ?hg (N := 2) ?hd (cs := #[.slice A0_0 l0_0.length c0_0]) (t := 56) ?hr ?_;(case hd => rfl);(case hg => rfl);(case hr => exact gS);intro gb442 hg w7 hbox hb;have n0_ := aM (below_step (by exact bB) hb);have n1_ := aM (hbox);have n2_ := aM (sW hg : w.heap.size ≤ gb442);have n3_ := aM (sW hg : w.heap.size ≤ gb442);clear HB;have HB := n0_;have BK442 := n1_;have GW442 := n2_;have GE442 := n3_;clear n0_ n1_ n2_ n3_;clear hb hbox hg;have hcz8_0 := bC0 BK442.out;have hfz8_0 := blk_frozen BK442.out 0;have p443 : 0 ≤ (a1 : Int) := oA;have q443 : a1 < (l0_0.length : Int) := oA;obtain ⟨ad443, e443, hx443_0⟩ := Kd.at_int HR0_0.out a1 p443 q443;cases e443;replace hx443_0 := (HB.out.cell (World.block_lt_of_cell? w _ hx443_0)).trans hx443_0;replace p443 := eq_true p443;replace q443 := eq_true q443));try go_wp2_with (first | ((with_reducible refine gate_dst (N := 2) rfl ?_);refine box_event ?hg (N := 2) ?hd (cs := #[.slice A0_0 l0_0.length c0_0]) (t := 56) ?hr ?_;(case hd => rfl);(case hg => rfl);(case hr => exact gS);intro gb442 hg w7 hbox hb;have n0_ := aM (below_step (by exact bB) hb);have n1_ := aM (hbox);have n2_ := aM (sW hg : w.heap.size ≤ gb442);have n3_ := aM (sW hg : w.heap.size ≤ gb442);clear HB;have HB := n0_;have BK442 := n1_;have GW442 := n2_;have GE442 := n3_;clear n0_ n1_ n2_ n3_;clear hb hbox hg;have hcz8_0 := bC0 BK442.out;have hfz8_0 := blk_frozen BK442.out 0;have p443 : 0 ≤ (a1 : Int) := oA;have q443 : a1 < (l0_0.length : Int) := oA;obtain ⟨ad443, e443, hx443_0⟩ := Kd.at_int HR0_0.out a1 p443 q443;cases e443;replace hx443_0 := (HB.out.cell (World.block_lt_of_cell? w _ hx443_0)).trans hx443_0;replace p443 := eq_true p443;replace q443 := eq_true q443)))
 go_ret
 exact ⟨by first | rfl | (simp [errW_none, errW_some] <;> rfl) | (simp only [← hji6];first | rfl | (simp [errW_none, errW_some] <;> rfl)) | (simp [*, errW_none, errW_some] <;> rfl), by exact bB⟩


end Go.Proofs.YtgahlimikndecaaDoor.QEternalFamily
