import Derived.Test.YtgahlimikndecaaDoorQWorstAttack0
import Derived.Test.YtgahlimikndecaaDoorQWorstAttack1
import Derived.Test.YtgahlimikndecaaDoorQWorstAttack4
namespace Go.Proofs.YtgahlimikndecaaDoor.QWorstAttack
open Go.RowKit Go.Proofs.YtgahlimikndecaaDoorW.PrintWords Go.Proofs.YtgahlimikndecaaDoorW.PrintLast Go.Proofs.YtgahlimikndecaaDoorW.PrintMore
attribute [local go_sem] max2_int min2_int max_two min_two max_three min_three max_four min_four   -- for this text's walks alone
set_option linter.unusedVariables false
set_option linter.unusedSimpArgs false
set_option maxRecDepth 100000
set_option maxHeartbeats 8000000
/-! ### spec_WorstAttack: function 16 -/
mutual
def spec_WorstAttack.j0 : Nat → List Int → Bool → Bool → Int → List (S78) → Option (Int × Bool)
 | 0, _, _, _, _, _ => none
 | k + 1, x1, x2, x25, x301000, x301001 => if x25 = true then (some (0, false)) else ((spec_l10Sets.f k x301000 x301001 (x1.length : Int)).bind fun t303 => ((spec_l10Table.f k x301000 x301001 t303 x2).bind fun t306 => ((spec_l10Resist.f k t303 t306).bind fun t309 => ((spec_l4At.f k t303 x1).bind fun t312 => (if 0 ≤ t312 then (if t312 < (t309.length : Int) then (if (rd t309 t312) < 0 then (some (0, false)) else (spec_WorstAttack.l0 k x1 (-1) 0 t306 t309 t312 0 x301000 x301001)) else (none)) else (none))))))
def spec_WorstAttack.l0 : Nat → List Int → Int → Int → List (List (List Int)) → List Int → Int → Int → Int → List (S78) → Option (Int × Bool)
 | 0, _, _, _, _, _, _, _, _, _ => none
 | k + 1, x1, x9, x10, x11, x12, x13, x14, x301000, x301001 => if x14 < x301000 then ((spec_l1Has.f k x1 x14).bind fun t314 => (if t314 = true then (spec_WorstAttack.l0 k x1 x9 x10 x11 x12 x13 (wrap64 (x14 + 1)) x301000 x301001) else (if 0 ≤ x13 then (if x13 < (x11.length : Int) then (if 0 ≤ x14 then (if x14 < ((rd_L3 x11 x13).length : Int) then ((spec_l10After.f k (rd_L2 (rd_L3 x11 x13) x14) x12).bind fun bt317 => (if bt317.2 = true then (if bt317.1 ≥ 0 then (if x9 < 0 then (spec_WorstAttack.l0 k x1 x14 bt317.1 x11 x12 x13 (wrap64 (x14 + 1)) x301000 x301001) else (if bt317.1 < x10 then (spec_WorstAttack.l0 k x1 x14 bt317.1 x11 x12 x13 (wrap64 (x14 + 1)) x301000 x301001) else (spec_WorstAttack.l0 k x1 x9 x10 x11 x12 x13 (wrap64 (x14 + 1)) x301000 x301001))) else (spec_WorstAttack.l0 k x1 x9 x10 x11 x12 x13 (wrap64 (x14 + 1)) x301000 x301001)) else (some (x14, true)))) else (none)) else (none)) else (none)) else (none)))) else (some (x9, true))
end
def spec_WorstAttack.f (k : Nat) (a0_0 : Int) (l0_1 : List (S78)) (l1 : List Int) (a2 : Bool) : Option (Int × Bool) := (spec_l2Good.f a0_0 l0_1).bind fun t301 => (if t301 = true then ((spec_l2Set.f k a0_0 l0_1 l1).bind fun t302 => (spec_WorstAttack.j0 k l1 a2 (!t302) a0_0 l0_1)) else (spec_WorstAttack.j0 k l1 a2 true a0_0 l0_1))
theorem spec_WorstAttack.mono_l : ∀ k, (∀ y0 y1 y2 y3 y4, LeO (spec_WorstAttack.j0 k y0 y1 y2 y3 y4) (spec_WorstAttack.j0 (k + 1) y0 y1 y2 y3 y4)) ∧ (∀ y0 y1 y2 y3 y4 y5 y6 y7 y8, LeO (spec_WorstAttack.l0 k y0 y1 y2 y3 y4 y5 y6 y7 y8) (spec_WorstAttack.l0 (k + 1) y0 y1 y2 y3 y4 y5 y6 y7 y8))
 | 0 => ⟨fun _ _ _ _ _ r h => by simp [spec_WorstAttack.j0] at h, fun _ _ _ _ _ _ _ _ _ r h => by simp [spec_WorstAttack.l0] at h⟩
 | k + 1 => by
  obtain ⟨ih0, ih1⟩ := spec_WorstAttack.mono_l k
  refine ⟨?_, ?_⟩
  ·intro y0 y1 y2 y3 y4
   unfold spec_WorstAttack.j0
   repeat' first
   | (with_reducible exact ih0 _ _ _ _ _)
   | (with_reducible exact ih1 _ _ _ _ _ _ _ _ _)
   | (with_reducible exact spec_l10After.mono _ _ _)
   | (with_reducible exact spec_l10Resist.mono _ _ _)
   | (with_reducible exact spec_l10Sets.mono _ _ _ _)
   | (with_reducible exact spec_l10Table.mono _ _ _ _ _)
   | (with_reducible exact spec_l1Has.mono _ _ _)
   | (with_reducible exact spec_l2Set.mono _ _ _ _)
   | (with_reducible exact spec_l4At.mono _ _ _)
   | (with_reducible exact LeO.refl _)
   | (with_reducible exact LeO.none _)
   | (with_reducible refine LeO.ite ?_ ?_)
   | (with_reducible refine LeO.bind ?_ (fun _ => ?_))
   | exact LeO.none _
   | refine LeO.ite ?_ ?_
   | refine LeO.bind ?_ (fun _ => ?_)
  ·intro y0 y1 y2 y3 y4 y5 y6 y7 y8
   unfold spec_WorstAttack.l0
   repeat' first
   | (with_reducible exact ih0 _ _ _ _ _)
   | (with_reducible exact ih1 _ _ _ _ _ _ _ _ _)
   | (with_reducible exact spec_l10After.mono _ _ _)
   | (with_reducible exact spec_l10Resist.mono _ _ _)
   | (with_reducible exact spec_l10Sets.mono _ _ _ _)
   | (with_reducible exact spec_l10Table.mono _ _ _ _ _)
   | (with_reducible exact spec_l1Has.mono _ _ _)
   | (with_reducible exact spec_l2Set.mono _ _ _ _)
   | (with_reducible exact spec_l4At.mono _ _ _)
   | (with_reducible exact LeO.refl _)
   | (with_reducible exact LeO.none _)
   | (with_reducible refine LeO.ite ?_ ?_)
   | (with_reducible refine LeO.bind ?_ (fun _ => ?_))
   | exact LeO.none _
   | refine LeO.ite ?_ ?_
   | refine LeO.bind ?_ (fun _ => ?_)
theorem spec_WorstAttack.mono : ∀ a0 a1 a2 a3 k, LeO (spec_WorstAttack.f k a0 a1 a2 a3) (spec_WorstAttack.f (k + 1) a0 a1 a2 a3) := by
 intro a0 a1 a2 a3 k
 obtain ⟨ih0, ih1⟩ := spec_WorstAttack.mono_l k
 unfold spec_WorstAttack.f
 repeat' first
   | (with_reducible exact ih0 _ _ _ _ _)
   | (with_reducible exact ih1 _ _ _ _ _ _ _ _ _)
   | (with_reducible exact spec_l10After.mono _ _ _)
   | (with_reducible exact spec_l10Resist.mono _ _ _)
   | (with_reducible exact spec_l10Sets.mono _ _ _ _)
   | (with_reducible exact spec_l10Table.mono _ _ _ _ _)
   | (with_reducible exact spec_l1Has.mono _ _ _)
   | (with_reducible exact spec_l2Set.mono _ _ _ _)
   | (with_reducible exact spec_l4At.mono _ _ _)
   | (with_reducible exact LeO.refl _)
   | (with_reducible exact LeO.none _)
   | (with_reducible refine LeO.ite ?_ ?_)
   | (with_reducible refine LeO.bind ?_ (fun _ => ?_))
   | exact LeO.none _
   | refine LeO.ite ?_ ?_
   | refine LeO.bind ?_ (fun _ => ?_)
theorem spec_WorstAttack.calls (k : Nat) (a0_0 : Int) (A0_1 : Option Addr) (c0_1 : Nat) (l0_1 : List (S78)) (A1 : Option Addr) (c1 : Nat) (l1 : List Int) (a2 : Bool) (r1 : Int) (r2 : Bool) (w : World) (hr0_1 : Kd.C k78 w A0_1 l0_1.length l0_1) (hc0_1 : l0_1.length ≤ c0_1) (hr1 : Kd.C (Kd.int .i64) w A1 l1.length l1) (hc1 : l1.length ≤ c1) (h : spec_WorstAttack.f k a0_0 l0_1 l1 a2 = some (r1, r2)) :
  Calls Tryd.prog 16 #[.agg #[.int .i64 a0_0, .slice A0_1 l0_1.length c0_1], .slice A1 l1.length c1, .bool a2] w fun e w' => e = .returned (.tuple #[.int .i64 r1, .bool r2]) ∧ Below w.heap.size w w' := by
 have hu29 := Tryd.underlying29
 have HR0_1 := Aside0.mk hr0_1
 have HC0_1 := Aside0.mk hc0_1
 clear hr0_1 hc0_1
 have HR1 := Aside0.mk hr1
 have HC1 := Aside0.mk hc1
 clear hr1 hc1
 have HB := aM (Below.refl w.heap.size w)
 have H : ((spec_l2Good.f a0_0 l0_1).bind fun t301 => (if t301 = true then ((spec_l2Set.f k a0_0 l0_1 l1).bind fun t302 => (spec_WorstAttack.j0 k l1 a2 (!t302) a0_0 l0_1)) else (spec_WorstAttack.j0 k l1 a2 true a0_0 l0_1))) = some (r1, r2) := h
 clear h
 have HC4 := Aside0.mk H
 clear H
 go_enter Tryd.func16, Tryd.ntmps16
 go_upto_region 1 with (first | ((with_reducible refine gate_dst (N := 3) rfl ?_);refine box_event ?hg (N := 3) ?hd (cs := #[.int .i64 a0_0, .slice A0_1 l0_1.length c0_1]) (t := 29) ?hr ?_;(case hd => rfl);(case hg => rfl);(case hr => exact gS);intro gb300 hg w5 hbox hb;have n0_ := aM (below_step (by exact bB) hb);have n1_ := aM (hbox);have n2_ := aM (sW hg : w.heap.size ≤ gb300);have n3_ := aM (sW hg : w.heap.size ≤ gb300);clear HB;have HB := n0_;have BK300 := n1_;have GW300 := n2_;have GE300 := n3_;clear n0_ n1_ n2_ n3_;clear hb hbox hg))
 (try simp only [Act.put, List.setIfInBounds_toArray, List.set_cons_zero, List.set_cons_succ])
 go_cut [25] (fun v25 wc => ∃ (kq : Nat) (x25_3 : Bool), v25 = .bool x25_3 ∧ Aside0 (spec_WorstAttack.j0 kq l1 a2 x25_3 a0_0 l0_1 = some (r1, r2)) ∧ Aside0 (kq ≤ k) ∧ Aside0 (wc.heap[gb300]? = some (.cells #[.int .i64 a0_0, (.slice A0_1 l0_1.length c0_1)] 29 (0, 0))) ∧ Aside0 (Below w.heap.size w wc))
 case first =>
  have H := HC4.out
  clear HC4
  replace H := Option.bind_eq_some_iff.mp H
  obtain ⟨t301, A60, H⟩ := H
  replace H : (if t301 = true then ((spec_l2Set.f k a0_0 l0_1 l1).bind fun t302 => (spec_WorstAttack.j0 k l1 a2 (!t302) a0_0 l0_1)) else (spec_WorstAttack.j0 k l1 a2 true a0_0 l0_1)) = some (r1, r2) := H
  have A6 := Aside0.mk A60
  clear A60
  by_cases c7 : t301 = true
  rotate_left
  ·replace c7 := Bool.eq_false_iff.mpr c7
   subst c7
   have H1 : (spec_WorstAttack.j0 k l1 a2 true a0_0 l0_1) = some (r1, r2) := by rw [if_neg (show ¬ (false = true) by decide)] at H;exact H
   clear H
   have H := H1
   clear H1
   have H' := Aside0.mk H
   clear H
   have hcz13_0 := bC0 BK300.out
   have hcz13_1 := bC1 BK300.out
   have hfz13_0 := blk_frozen BK300.out 0
   have hfz13_1 := blk_frozen BK300.out 1
   go_wp2_with (first | ((with_reducible refine gate_callee (f := 37) rfl ?_);refine goesL_ (some 18) rfl rfl Tryd.func37 (by kernel_rfl) rfl #[.agg #[.int .i64 a0_0, .slice A0_1 l0_1.length c0_1]] rfl mM ?_;(with_reducible refine (spec_l2Good.calls a0_0 _ _ l0_1 false _ ?side1 ?side2 A6.out).mono ?_);(case side1 => exact cP (Kd.C_below HR0_1.out HB.out));(case side2 => exact HC0_1.out);rintro e w14 ⟨rfl, hb⟩;refine ⟨_, rfl, ?_⟩;have n0_ := aM (kB hb BK300.out);have n1_ := aM (below_step (by exact bB) hb);clear BK300;clear HB;have BK300 := n0_;have HB := n1_;clear n0_ n1_;(try clear hb)))
   go_meet
   case rel => exact ⟨_, (true), eF, H', ⟨by first | omega | exact Nat.le_refl _⟩, ⟨by exact kP BK300.out⟩, ⟨by exact bB⟩⟩
  subst c7
  have H1 : ((spec_l2Set.f k a0_0 l0_1 l1).bind fun t302 => (spec_WorstAttack.j0 k l1 a2 (!t302) a0_0 l0_1)) = some (r1, r2) := by rw [if_pos rfl] at H;exact H
  clear H
  have H := H1
  clear H1
  replace H := Option.bind_eq_some_iff.mp H
  obtain ⟨t302, A80, H⟩ := H
  replace H : (spec_WorstAttack.j0 k l1 a2 (!t302) a0_0 l0_1) = some (r1, r2) := H
  have A8 := Aside0.mk A80
  clear A80
  have H' := Aside0.mk H
  clear H
  have hcz9_0 := bC0 BK300.out
  have hcz9_1 := bC1 BK300.out
  have hfz9_0 := blk_frozen BK300.out 0
  have hfz9_1 := blk_frozen BK300.out 1
  go_wp2_with (first | ((with_reducible refine gate_callee (f := 37) rfl ?_);refine goesL_ (some 18) rfl rfl Tryd.func37 (by kernel_rfl) rfl #[.agg #[.int .i64 a0_0, .slice A0_1 l0_1.length c0_1]] rfl mM ?_;(with_reducible refine (spec_l2Good.calls a0_0 _ _ l0_1 true _ ?side1 ?side2 A6.out).mono ?_);(case side1 => exact cP (Kd.C_below HR0_1.out HB.out));(case side2 => exact HC0_1.out);rintro e w10 ⟨rfl, hb⟩;refine ⟨_, rfl, ?_⟩;have n0_ := aM (kB hb BK300.out);have n1_ := aM (below_step (by exact bB) hb);clear BK300;clear HB;have BK300 := n0_;have HB := n1_;clear n0_ n1_;(try clear hb);have hcz11_0 := bC0 BK300.out;have hcz11_1 := bC1 BK300.out;have hfz11_0 := blk_frozen BK300.out 0;have hfz11_1 := blk_frozen BK300.out 1) | (go_at_call 38;(with_reducible refine (spec_l2Set.calls k a0_0 _ _ l0_1 _ _ l1 t302 _ ?side1 ?side2 ?side3 ?side4 A8.out).mono ?_);(case side1 => exact cP (Kd.C_below HR0_1.out HB.out));(case side2 => exact HC0_1.out);(case side3 => exact cP (Kd.C_below HR1.out HB.out));(case side4 => exact HC1.out);rintro e w12 ⟨rfl, hb⟩;have n0_ := aM (kB hb BK300.out);have n1_ := aM (below_step (by exact bB) hb);clear BK300;clear HB;have BK300 := n0_;have HB := n1_;clear n0_ n1_;(try clear hb)))
  go_meet
  case rel => exact ⟨_, (!t302), eF, H', ⟨by first | omega | exact Nat.le_refl _⟩, ⟨by exact kP BK300.out⟩, ⟨by exact bB⟩⟩
 case rest =>
  clear HC4
  try clear c1
  try clear p2
  try clear c3
  try clear c7
  try clear hcz11_0
  try clear hcz11_1
  try clear hcz13_0
  try clear hcz13_1
  try clear hcz9_0
  try clear hcz9_1
  try clear hfz11_0
  try clear hfz11_1
  try clear hfz13_0
  try clear hfz13_1
  try clear hfz9_0
  try clear hfz9_1
  obtain ⟨kq, x25_3, rfl, HA, HJ3, BK300, HB⟩ := hcut
  cases kq with
  | zero => exact absurd HA.out (by simp [spec_WorstAttack.j0])
  | succ kj3 =>
   have H := HA.out
   clear HA
   simp only [spec_WorstAttack.j0] at H
   by_cases c15 : x25_3 = true
   ·subst c15
    have H1 : (some (0, false)) = some (r1, r2) := by rw [if_pos rfl] at H;exact H
    clear H
    have H := H1
    clear H1
    simp only [Option.some.injEq, Prod.mk.injEq] at H
    obtain ⟨rfl, rfl⟩ := H
    go_wp2
    go_ret2
    exact ⟨eW, by exact bB⟩
   replace c15 := Bool.eq_false_iff.mpr c15
   subst c15
   have H1 : ((spec_l10Sets.f kj3 a0_0 l0_1 (l1.length : Int)).bind fun t303 => ((spec_l10Table.f kj3 a0_0 l0_1 t303 a2).bind fun t306 => ((spec_l10Resist.f kj3 t303 t306).bind fun t309 => ((spec_l4At.f kj3 t303 l1).bind fun t312 => (if 0 ≤ t312 then (if t312 < (t309.length : Int) then (if (rd t309 t312) < 0 then (some (0, false)) else (spec_WorstAttack.l0 kj3 l1 (-1) 0 t306 t309 t312 0 a0_0 l0_1)) else (none)) else (none)))))) = some (r1, r2) := by rw [if_neg (show ¬ (false = true) by decide)] at H;exact H
   clear H
   have H := H1
   clear H1
   replace H := Option.bind_eq_some_iff.mp H
   obtain ⟨t303, A160, H⟩ := H
   replace H : ((spec_l10Table.f kj3 a0_0 l0_1 t303 a2).bind fun t306 => ((spec_l10Resist.f kj3 t303 t306).bind fun t309 => ((spec_l4At.f kj3 t303 l1).bind fun t312 => (if 0 ≤ t312 then (if t312 < (t309.length : Int) then (if (rd t309 t312) < 0 then (some (0, false)) else (spec_WorstAttack.l0 kj3 l1 (-1) 0 t306 t309 t312 0 a0_0 l0_1)) else (none)) else (none))))) = some (r1, r2) := H
   have A16 := Aside0.mk A160
   clear A160
   replace H := Option.bind_eq_some_iff.mp H
   obtain ⟨t306, A170, H⟩ := H
   replace H : ((spec_l10Resist.f kj3 t303 t306).bind fun t309 => ((spec_l4At.f kj3 t303 l1).bind fun t312 => (if 0 ≤ t312 then (if t312 < (t309.length : Int) then (if (rd t309 t312) < 0 then (some (0, false)) else (spec_WorstAttack.l0 kj3 l1 (-1) 0 t306 t309 t312 0 a0_0 l0_1)) else (none)) else (none)))) = some (r1, r2) := H
   have A17 := Aside0.mk A170
   clear A170
   replace H := Option.bind_eq_some_iff.mp H
   obtain ⟨t309, A180, H⟩ := H
   replace H : ((spec_l4At.f kj3 t303 l1).bind fun t312 => (if 0 ≤ t312 then (if t312 < (t309.length : Int) then (if (rd t309 t312) < 0 then (some (0, false)) else (spec_WorstAttack.l0 kj3 l1 (-1) 0 t306 t309 t312 0 a0_0 l0_1)) else (none)) else (none))) = some (r1, r2) := H
   have A18 := Aside0.mk A180
   clear A180
   replace H := Option.bind_eq_some_iff.mp H
   obtain ⟨t312, A190, H⟩ := H
   replace H : (if 0 ≤ t312 then (if t312 < (t309.length : Int) then (if (rd t309 t312) < 0 then (some (0, false)) else (spec_WorstAttack.l0 kj3 l1 (-1) 0 t306 t309 t312 0 a0_0 l0_1)) else (none)) else (none)) = some (r1, r2) := H
   have A19 := Aside0.mk A190
   clear A190
   by_cases c20 : 0 ≤ t312
   rotate_left
   ·rw [if_neg c20] at H
    exact absurd H (by simp)
   rw [if_pos c20] at H
   have c20b0 : decide (0 ≤ t312) = true := decide_eq_true c20
   clear c20
   by_cases c21 : t312 < (t309.length : Int)
   rotate_left
   ·rw [if_neg c21] at H
    exact absurd H (by simp)
   rw [if_pos c21] at H
   have c21b0 : decide (t312 < (t309.length : Int)) = true := decide_eq_true c21
   clear c21
   by_cases c22 : (rd t309 t312) < 0
   ·rw [if_pos c22] at H
    have c22b0 : decide ((rd t309 t312) < 0) = true := decide_eq_true c22
    clear c22
    simp only [Option.some.injEq, Prod.mk.injEq] at H
    obtain ⟨rfl, rfl⟩ := H
    have hcz23_0 := bC0 BK300.out
    have hcz23_1 := bC1 BK300.out
    have hfz23_0 := blk_frozen BK300.out 0
    have hfz23_1 := blk_frozen BK300.out 1
    go_wp2_with (first | ((with_reducible refine gate_callee (f := 39) rfl ?_);refine goesL_ (some 29) rfl rfl Tryd.func39 (by kernel_rfl) rfl #[.agg #[.int .i64 a0_0, .slice A0_1 l0_1.length c0_1], .int .i64 (l1.length : Int)] rfl mM ?_;(with_reducible refine (spec_l10Sets.calls kj3 a0_0 _ _ l0_1 (l1.length : Int) t303 _ ?side1 ?side2 A16.out).mono ?_);(case side1 => exact cP (Kd.C_below HR0_1.out HB.out));(case side2 => exact HC0_1.out);rintro e w24 ⟨v304, rfl, ho0, hb⟩;refine ⟨_, rfl, ?_⟩;have n0_ := aM (Kd.N_lower (Kd.N_mono (ok' := fun k_ => k_ ≠ gb300) ho0 (fun k_ hk_ => (Kd.freshB (g := gb300) (o := .cells #[.int .i64 a0_0, .slice A0_1 l0_1.length c0_1] 29 (0, 0)) (by exact kP BK300.out) k_ hk_))) (below_size (by exact bB)));have n1_ := aM (kB hb BK300.out);have n2_ := aM (below_step (by exact bB) hb);clear BK300;clear HB;have HO305 := n0_;have BK300 := n1_;have HB := n2_;clear n0_ n1_ n2_;(try clear hb);(try clear ho0);have hcz25_0 := bC0 BK300.out;have hcz25_1 := bC1 BK300.out;have hfz25_0 := blk_frozen BK300.out 0;have hfz25_1 := blk_frozen BK300.out 1;obtain ⟨Ao26, co26, eo26⟩ := Kd.N_slice HO305.out;subst eo26) | ((with_reducible refine gate_callee (f := 40) rfl ?_);refine goesL_ (some 33) rfl rfl Tryd.func40 (by kernel_rfl) rfl #[.agg #[.int .i64 a0_0, .slice A0_1 l0_1.length c0_1], .slice Ao26 t303.length co26, .bool a2] rfl mM ?_;(with_reducible refine (spec_l10Table.calls kj3 a0_0 _ _ l0_1 _ _ t303 a2 t306 _ ?side1 ?side2 ?side3 ?side4 A17.out).mono ?_);(case side1 => exact cP (Kd.C_below HR0_1.out HB.out));(case side2 => exact HC0_1.out);(case side3 => exact cP (Kd.N_reads' HO305.out).2.2);(case side4 => exact (Kd.N_reads' HO305.out).2.1);rintro e w27 ⟨v307, rfl, ho0, hb⟩;refine ⟨_, rfl, ?_⟩;have n0_ := aM (Kd.N_elder' (by exact uP HO305.out) (Kd.R_base ho0) hb);have n1_ := aM (Kd.N_lower (Kd.N_mono (ok' := fun k_ => some k_ ≠ (.slice Ao26 t303.length co26 : Value).ownBlock ∧ k_ ≠ gb300) (Kd.R_N (Kd.R_bound ho0)) (fun k_ hk_ => ⟨(Kd.fresh' (Kd.N_lt (by exact uP HO305.out)) k_ hk_.2.1), (Kd.freshB (g := gb300) (o := .cells #[.int .i64 a0_0, .slice A0_1 l0_1.length c0_1] 29 (0, 0)) (by exact kP BK300.out) k_ hk_.2.1)⟩)) (below_size (by exact bB)));have n2_ := aM (kB hb BK300.out);have n3_ := aM (below_step (by exact bB) hb);clear HO305;clear BK300;clear HB;have HO305 := n0_;have HO308 := n1_;have BK300 := n2_;have HB := n3_;clear n0_ n1_ n2_ n3_;(try clear hb);(try clear ho0);obtain ⟨Ao28, co28, eo28⟩ := Kd.N_slice HO308.out;subst eo28) | ((with_reducible refine gate_callee (f := 41) rfl ?_);refine goesL_ (some 36) rfl rfl Tryd.func41 (by kernel_rfl) rfl #[.slice Ao26 t303.length co26, .slice Ao28 t306.length co28] rfl mM ?_;(with_reducible refine (spec_l10Resist.calls kj3 _ _ t303 _ _ t306 t309 _ ?side1 ?side2 ?side3 ?side4 A18.out).mono ?_);(case side1 => exact cP (Kd.N_reads' HO305.out).2.2);(case side2 => exact (Kd.N_reads' HO305.out).2.1);(case side3 => exact cP (Kd.N_reads' HO308.out).2.2);(case side4 => exact (Kd.N_reads' HO308.out).2.1);rintro e w29 ⟨v310, rfl, ho0, hb⟩;refine ⟨_, rfl, ?_⟩;have n0_ := aM (Kd.N_elder' (by exact uP HO305.out) (Kd.R_base ho0) hb);have n1_ := aM (Kd.N_elder' (by exact uP HO308.out) (Kd.R_base ho0) hb);have n2_ := aM (Kd.R_lower ho0 (below_size (by exact bB)));have n3_ := aM (kB hb BK300.out);have n4_ := aM (below_step (by exact bB) hb);clear HO305;clear HO308;clear BK300;clear HB;have HO305 := n0_;have HO308 := n1_;have HO311 := n2_;have BK300 := n3_;have HB := n4_;clear n0_ n1_ n2_ n3_ n4_;(try clear hb);(try clear ho0)) | ((with_reducible refine gate_callee (f := 42) rfl ?_);refine goesL_ (some 39) rfl rfl Tryd.func42 (by kernel_rfl) rfl #[.slice Ao26 t303.length co26, .slice A1 l1.length c1] rfl mM ?_;(with_reducible refine (spec_l4At.calls kj3 _ _ t303 _ _ l1 t312 _ ?side1 ?side2 ?side3 ?side4 A19.out).mono ?_);(case side1 => exact cP (Kd.N_reads' HO305.out).2.2);(case side2 => exact (Kd.N_reads' HO305.out).2.1);(case side3 => exact cP (Kd.C_below HR1.out HB.out));(case side4 => exact HC1.out);rintro e w' ⟨rfl, ⟨nd, rfl⟩⟩;refine ⟨_, rfl, ?_⟩;obtain ⟨Ao30, co30, eo30⟩ := Kd.R_slice HO311.out;subst eo30;have p313 : 0 ≤ (t312 : Int) := oA;have q313 : t312 < (t309.length : Int) := oA;obtain ⟨ad313, e313, hx313_0⟩ := Kd.at_int (Kd.R_reads' HO311.out).2.2 t312 p313 q313;cases e313;replace p313 := eq_true p313;replace q313 := eq_true q313))
    go_ret2
    exact ⟨eW, by exact bB⟩
   rw [if_neg c22] at H
   have c22b0 : decide ((rd t309 t312) < 0) = false := decide_eq_false c22
   clear c22
   have H' := Aside0.mk H
   clear H
   have hcz31_0 := bC0 BK300.out
   have hcz31_1 := bC1 BK300.out
   have hfz31_0 := blk_frozen BK300.out 0
   have hfz31_1 := blk_frozen BK300.out 1
   go_wp2_with (first | ((with_reducible refine gate_callee (f := 39) rfl ?_);refine goesL_ (some 29) rfl rfl Tryd.func39 (by kernel_rfl) rfl #[.agg #[.int .i64 a0_0, .slice A0_1 l0_1.length c0_1], .int .i64 (l1.length : Int)] rfl mM ?_;(with_reducible refine (spec_l10Sets.calls kj3 a0_0 _ _ l0_1 (l1.length : Int) t303 _ ?side1 ?side2 A16.out).mono ?_);(case side1 => exact cP (Kd.C_below HR0_1.out HB.out));(case side2 => exact HC0_1.out);rintro e w32 ⟨v304, rfl, ho0, hb⟩;refine ⟨_, rfl, ?_⟩;have n0_ := aM (Kd.N_lower (Kd.N_mono (ok' := fun k_ => k_ ≠ gb300) ho0 (fun k_ hk_ => (Kd.freshB (g := gb300) (o := .cells #[.int .i64 a0_0, .slice A0_1 l0_1.length c0_1] 29 (0, 0)) (by exact kP BK300.out) k_ hk_))) (below_size (by exact bB)));have n1_ := aM (kB hb BK300.out);have n2_ := aM (below_step (by exact bB) hb);clear BK300;clear HB;have HO305 := n0_;have BK300 := n1_;have HB := n2_;clear n0_ n1_ n2_;(try clear hb);(try clear ho0);have hcz33_0 := bC0 BK300.out;have hcz33_1 := bC1 BK300.out;have hfz33_0 := blk_frozen BK300.out 0;have hfz33_1 := blk_frozen BK300.out 1;obtain ⟨Ao34, co34, eo34⟩ := Kd.N_slice HO305.out;subst eo34) | ((with_reducible refine gate_callee (f := 40) rfl ?_);refine goesL_ (some 33) rfl rfl Tryd.func40 (by kernel_rfl) rfl #[.agg #[.int .i64 a0_0, .slice A0_1 l0_1.length c0_1], .slice Ao34 t303.length co34, .bool a2] rfl mM ?_;(with_reducible refine (spec_l10Table.calls kj3 a0_0 _ _ l0_1 _ _ t303 a2 t306 _ ?side1 ?side2 ?side3 ?side4 A17.out).mono ?_);(case side1 => exact cP (Kd.C_below HR0_1.out HB.out));(case side2 => exact HC0_1.out);(case side3 => exact cP (Kd.N_reads' HO305.out).2.2);(case side4 => exact (Kd.N_reads' HO305.out).2.1);rintro e w35 ⟨v307, rfl, ho0, hb⟩;refine ⟨_, rfl, ?_⟩;have n0_ := aM (Kd.N_elder' (by exact uP HO305.out) (Kd.R_base ho0) hb);have n1_ := aM (Kd.N_lower (Kd.N_mono (ok' := fun k_ => some k_ ≠ (.slice Ao34 t303.length co34 : Value).ownBlock ∧ k_ ≠ gb300) (Kd.R_N (Kd.R_bound ho0)) (fun k_ hk_ => ⟨(Kd.fresh' (Kd.N_lt (by exact uP HO305.out)) k_ hk_.2.1), (Kd.freshB (g := gb300) (o := .cells #[.int .i64 a0_0, .slice A0_1 l0_1.length c0_1] 29 (0, 0)) (by exact kP BK300.out) k_ hk_.2.1)⟩)) (below_size (by exact bB)));have n2_ := aM (kB hb BK300.out);have n3_ := aM (below_step (by exact bB) hb);clear HO305;clear BK300;clear HB;have HO305 := n0_;have HO308 := n1_;have BK300 := n2_;have HB := n3_;clear n0_ n1_ n2_ n3_;(try clear hb);(try clear ho0);obtain ⟨Ao36, co36, eo36⟩ := Kd.N_slice HO308.out;subst eo36) | ((with_reducible refine gate_callee (f := 41) rfl ?_);refine goesL_ (some 36) rfl rfl Tryd.func41 (by kernel_rfl) rfl #[.slice Ao34 t303.length co34, .slice Ao36 t306.length co36] rfl mM ?_;(with_reducible refine (spec_l10Resist.calls kj3 _ _ t303 _ _ t306 t309 _ ?side1 ?side2 ?side3 ?side4 A18.out).mono ?_);(case side1 => exact cP (Kd.N_reads' HO305.out).2.2);(case side2 => exact (Kd.N_reads' HO305.out).2.1);(case side3 => exact cP (Kd.N_reads' HO308.out).2.2);(case side4 => exact (Kd.N_reads' HO308.out).2.1);rintro e w37 ⟨v310, rfl, ho0, hb⟩;refine ⟨_, rfl, ?_⟩;have n0_ := aM (Kd.N_elder' (by exact uP HO305.out) (Kd.R_base ho0) hb);have n1_ := aM (Kd.N_elder' (by exact uP HO308.out) (Kd.R_base ho0) hb);have n2_ := aM (Kd.R_lower ho0 (below_size (by exact bB)));have n3_ := aM (kB hb BK300.out);have n4_ := aM (below_step (by exact bB) hb);clear HO305;clear HO308;clear BK300;clear HB;have HO305 := n0_;have HO308 := n1_;have HO311 := n2_;have BK300 := n3_;have HB := n4_;clear n0_ n1_ n2_ n3_ n4_;(try clear hb);(try clear ho0)) | ((with_reducible refine gate_callee (f := 42) rfl ?_);refine goesL_ (some 39) rfl rfl Tryd.func42 (by kernel_rfl) rfl #[.slice Ao34 t303.length co34, .slice A1 l1.length c1] rfl mM ?_;(with_reducible refine (spec_l4At.calls kj3 _ _ t303 _ _ l1 t312 _ ?side1 ?side2 ?side3 ?side4 A19.out).mono ?_);(case side1 => exact cP (Kd.N_reads' HO305.out).2.2);(case side2 => exact (Kd.N_reads' HO305.out).2.1);(case side3 => exact cP (Kd.C_below HR1.out HB.out));(case side4 => exact HC1.out);rintro e w' ⟨rfl, ⟨nd, rfl⟩⟩;refine ⟨_, rfl, ?_⟩;obtain ⟨Ao38, co38, eo38⟩ := Kd.R_slice HO311.out;subst eo38;have p313 : 0 ≤ (t312 : Int) := oA;have q313 : t312 < (t309.length : Int) := oA;obtain ⟨ad313, e313, hx313_0⟩ := Kd.at_int (Kd.R_reads' HO311.out).2.2 t312 p313 q313;cases e313;replace p313 := eq_true p313;replace q313 := eq_true q313))
   go_loopg [9, 10, 14] kj3 (fun kq v9 v10 v14 w' => ∃ (x9_2 : Int) (x10_2 : Int) (x14_2 : Int), v9 = .int .i64 x9_2 ∧ v10 = .int .i64 x10_2 ∧ v14 = .int .i64 x14_2 ∧ Aside0 (spec_WorstAttack.l0 kq l1 x9_2 x10_2 t306 t309 t312 x14_2 a0_0 l0_1 = some (r1, r2)) ∧ Aside0 (kq ≤ kj3) ∧ Aside0 (Kd.N (Kd.slice 36 (Kd.slice 3 (Kd.int .i64))) 26 w' w.heap.size (fun k_ => some k_ ≠ ((.slice (some ad313) t309.length co38) : Value).ownBlock ∧ k_ ≠ gb300) (.slice Ao36 t306.length co36) t306) ∧ Aside0 (Kd.R (Kd.int .i64) 3 w' w.heap.size (fun _ => True) (.slice (some ad313) t309.length co38) t309) ∧ Aside0 (w'.heap[gb300]? = some (.cells #[.int .i64 a0_0, (.slice A0_1 l0_1.length c0_1)] 29 (0, 0))) ∧ Aside0 (Below w.heap.size w w'))
   case atStart => exact ⟨((-1)), (0), (0), eF, eF, eF, H', ⟨Nat.le_refl _⟩, ⟨by (with_reducible repeat (first | apply Kd.N_alloc | apply Kd.N_drewN | apply Kd.N_drew));exact Kd.N_mono HO308.out (fun _ hk => ⟨hk.2, hk.1.2⟩)⟩, ⟨by exact rP HO311.out⟩, ⟨by exact kP BK300.out⟩, ⟨by exact bB⟩⟩
   case round =>
    clear H'
    try clear c1
    try clear c2
    try clear p2
    try clear c3
    try clear p3
    try clear q3
    try clear hx3
    try clear c4
    try clear c7
    try clear c15
    try clear c16
    try clear c20
    try clear c20b0
    try clear c21
    try clear c21b0
    try clear c22
    try clear c22b0
    try clear p31
    try clear q31
    try clear hx31
    try clear c37
    try clear hcz11_0
    try clear hcz11_1
    try clear hcz13_0
    try clear hcz13_1
    try clear hcz23_0
    try clear hcz23_1
    try clear hcz25_0
    try clear hcz25_1
    try clear hcz31_0
    try clear hcz31_1
    try clear hcz33_0
    try clear hcz33_1
    try clear hcz9_0
    try clear hcz9_1
    try clear hfz11_0
    try clear hfz11_1
    try clear hfz13_0
    try clear hfz13_1
    try clear hfz23_0
    try clear hfz23_1
    try clear hfz25_0
    try clear hfz25_1
    try clear hfz31_0
    try clear hfz31_1
    try clear hfz33_0
    try clear hfz33_1
    try clear hfz9_0
    try clear hfz9_1
    try clear hx313_0
    try clear p2
    try clear p313
    try clear q313
    obtain ⟨x9_2, x10_2, x14_2, rfl, rfl, rfl, HA, HK2, HO_11, HO_12, BK300, HB⟩ := hrel
    cases gk with
    | zero => exact absurd HA.out (by simp [spec_WorstAttack.l0])
    | succ k2 =>
     have H := HA.out
     clear HA
     simp only [spec_WorstAttack.l0] at H
     by_cases c39 : x14_2 < a0_0
     rotate_left
     ·rw [if_neg c39] at H
      have c39b0 : decide (x14_2 < a0_0) = false := decide_eq_false c39
      clear c39
      simp only [Option.some.injEq, Prod.mk.injEq] at H
      obtain ⟨rfl, rfl⟩ := H
      have hcz57_0 := bC0 BK300.out
      have hcz57_1 := bC1 BK300.out
      have hfz57_0 := blk_frozen BK300.out 0
      have hfz57_1 := blk_frozen BK300.out 1
      go_wp2
      go_ret2
      exact ⟨eW, by exact bB⟩
     rw [if_pos c39] at H
     have c39b0 : decide (x14_2 < a0_0) = true := decide_eq_true c39
     clear c39
     replace H := Option.bind_eq_some_iff.mp H
     obtain ⟨t314, A400, H⟩ := H
     replace H : (if t314 = true then (spec_WorstAttack.l0 k2 l1 x9_2 x10_2 t306 t309 t312 (wrap64 (x14_2 + 1)) a0_0 l0_1) else (if 0 ≤ t312 then (if t312 < (t306.length : Int) then (if 0 ≤ x14_2 then (if x14_2 < ((rd_L3 t306 t312).length : Int) then ((spec_l10After.f k2 (rd_L2 (rd_L3 t306 t312) x14_2) t309).bind fun bt317 => (if bt317.2 = true then (if bt317.1 ≥ 0 then (if x9_2 < 0 then (spec_WorstAttack.l0 k2 l1 x14_2 bt317.1 t306 t309 t312 (wrap64 (x14_2 + 1)) a0_0 l0_1) else (if bt317.1 < x10_2 then (spec_WorstAttack.l0 k2 l1 x14_2 bt317.1 t306 t309 t312 (wrap64 (x14_2 + 1)) a0_0 l0_1) else (spec_WorstAttack.l0 k2 l1 x9_2 x10_2 t306 t309 t312 (wrap64 (x14_2 + 1)) a0_0 l0_1))) else (spec_WorstAttack.l0 k2 l1 x9_2 x10_2 t306 t309 t312 (wrap64 (x14_2 + 1)) a0_0 l0_1)) else (some (x14_2, true)))) else (none)) else (none)) else (none)) else (none))) = some (r1, r2) := H
     have A40 := Aside0.mk A400
     clear A400
     by_cases c41 : t314 = true
     ·subst c41
      have H1 : (spec_WorstAttack.l0 k2 l1 x9_2 x10_2 t306 t309 t312 (wrap64 (x14_2 + 1)) a0_0 l0_1) = some (r1, r2) := by rw [if_pos rfl] at H;exact H
      clear H
      have H := H1
      clear H1
      have H' := Aside0.mk H
      clear H
      have hcz42_0 := bC0 BK300.out
      have hcz42_1 := bC1 BK300.out
      have hfz42_0 := blk_frozen BK300.out 0
      have hfz42_1 := blk_frozen BK300.out 1
      go_wp2_with (first | ((with_reducible refine gate_callee (f := 43) rfl ?_);refine goesL_ (some 53) rfl rfl Tryd.func43 (by kernel_rfl) rfl #[.slice A1 l1.length c1, .int .i64 x14_2] rfl mM ?_;(with_reducible refine (spec_l1Has.calls k2 _ _ l1 x14_2 true _ ?side1 ?side2 A40.out).mono ?_);(case side1 => exact cP (Kd.C_below HR1.out HB.out));(case side2 => exact HC1.out);rintro e w' ⟨rfl, ⟨nd, rfl⟩⟩;refine ⟨_, rfl, ?_⟩))
      go_roundg k2
      case measure => have := HJ3.out;have := HK2.out;omega
      case rel => exact ⟨(x9_2), (x10_2), (wrap64 (x14_2 + 1)), eF, eF, eF, H', ⟨by have := HJ3.out;have := HK2.out;omega⟩, ⟨by (with_reducible repeat (first | apply Kd.N_alloc | apply Kd.N_drewN | apply Kd.N_drew));exact HO_11.out⟩, ⟨by exact rP HO_12.out⟩, ⟨by exact kP BK300.out⟩, ⟨by exact bB⟩⟩
     replace c41 := Bool.eq_false_iff.mpr c41
     subst c41
     have H1 : (if 0 ≤ t312 then (if t312 < (t306.length : Int) then (if 0 ≤ x14_2 then (if x14_2 < ((rd_L3 t306 t312).length : Int) then ((spec_l10After.f k2 (rd_L2 (rd_L3 t306 t312) x14_2) t309).bind fun bt317 => (if bt317.2 = true then (if bt317.1 ≥ 0 then (if x9_2 < 0 then (spec_WorstAttack.l0 k2 l1 x14_2 bt317.1 t306 t309 t312 (wrap64 (x14_2 + 1)) a0_0 l0_1) else (if bt317.1 < x10_2 then (spec_WorstAttack.l0 k2 l1 x14_2 bt317.1 t306 t309 t312 (wrap64 (x14_2 + 1)) a0_0 l0_1) else (spec_WorstAttack.l0 k2 l1 x9_2 x10_2 t306 t309 t312 (wrap64 (x14_2 + 1)) a0_0 l0_1))) else (spec_WorstAttack.l0 k2 l1 x9_2 x10_2 t306 t309 t312 (wrap64 (x14_2 + 1)) a0_0 l0_1)) else (some (x14_2, true)))) else (none)) else (none)) else (none)) else (none)) = some (r1, r2) := by rw [if_neg (show ¬ (false = true) by decide)] at H;exact H
     clear H
     have H := H1
     clear H1
     by_cases c43 : 0 ≤ t312
     rotate_left
     ·rw [if_neg c43] at H
      exact absurd H (by simp)
     rw [if_pos c43] at H
     have c43b0 : decide (0 ≤ t312) = true := decide_eq_true c43
     clear c43
     by_cases c44 : t312 < (t306.length : Int)
     rotate_left
     ·rw [if_neg c44] at H
      exact absurd H (by simp)
     rw [if_pos c44] at H
     have c44b0 : decide (t312 < (t306.length : Int)) = true := decide_eq_true c44
     clear c44
     by_cases c45 : 0 ≤ x14_2
     rotate_left
     ·rw [if_neg c45] at H
      exact absurd H (by simp)
     rw [if_pos c45] at H
     have c45b0 : decide (0 ≤ x14_2) = true := decide_eq_true c45
     clear c45
     by_cases c46 : x14_2 < ((rd_L3 t306 t312).length : Int)
     rotate_left
     ·rw [if_neg c46] at H
      exact absurd H (by simp)
     rw [if_pos c46] at H
     have c46b0 : decide (x14_2 < ((rd_L3 t306 t312).length : Int)) = true := decide_eq_true c46
     clear c46
     replace H := Option.bind_eq_some_iff.mp H
     obtain ⟨⟨t317, t318⟩, A470, H⟩ := H
     replace H : (if t318 = true then (if t317 ≥ 0 then (if x9_2 < 0 then (spec_WorstAttack.l0 k2 l1 x14_2 t317 t306 t309 t312 (wrap64 (x14_2 + 1)) a0_0 l0_1) else (if t317 < x10_2 then (spec_WorstAttack.l0 k2 l1 x14_2 t317 t306 t309 t312 (wrap64 (x14_2 + 1)) a0_0 l0_1) else (spec_WorstAttack.l0 k2 l1 x9_2 x10_2 t306 t309 t312 (wrap64 (x14_2 + 1)) a0_0 l0_1))) else (spec_WorstAttack.l0 k2 l1 x9_2 x10_2 t306 t309 t312 (wrap64 (x14_2 + 1)) a0_0 l0_1)) else (some (x14_2, true))) = some (r1, r2) := H
     have A47 := Aside0.mk A470
     clear A470
     by_cases c48 : t318 = true
     rotate_left
     ·replace c48 := Bool.eq_false_iff.mpr c48
      subst c48
      have H1 : (some (x14_2, true)) = some (r1, r2) := by rw [if_neg (show ¬ (false = true) by decide)] at H;exact H
      clear H
      have H := H1
      clear H1
      simp only [Option.some.injEq, Prod.mk.injEq] at H
      obtain ⟨rfl, rfl⟩ := H
      have hcz56_0 := bC0 BK300.out
      have hcz56_1 := bC1 BK300.out
      have hfz56_0 := blk_frozen BK300.out 0
      have hfz56_1 := blk_frozen BK300.out 1
      go_wp2_with (first | ((with_reducible refine gate_callee (f := 43) rfl ?_);refine goesL_ (some 53) rfl rfl Tryd.func43 (by kernel_rfl) rfl #[.slice A1 l1.length c1, .int .i64 x14_2] rfl mM ?_;(with_reducible refine (spec_l1Has.calls k2 _ _ l1 x14_2 false _ ?side1 ?side2 A40.out).mono ?_);(case side1 => exact cP (Kd.C_below HR1.out HB.out));(case side2 => exact HC1.out);rintro e w' ⟨rfl, ⟨nd, rfl⟩⟩;refine ⟨_, rfl, ?_⟩;have p315 : 0 ≤ (t312 : Int) := oA;have q315 : t312 < (t306.length : Int) := oA;obtain ⟨ad315, A315_0, c315_0, e315, hx315_0, hl315_0, hi315_0⟩ := at_L3 (Kd.N_reads' HO_11.out).2.2 t312 p315 q315;cases e315;obtain ⟨ce315, hce315, hMe315, hcc315⟩ := Kd.N_get HO_11.out [] t312 p315 (by first | exact q315 | exact oA | (have e_ := (Kd.N_reads' HO_11.out).1;omega));obtain ⟨ua315_0, uc315_0, rfl, ul315_0, ge315_0⟩ := Kd.FK_slice_open hMe315;have hv315_0 := hcc315 0 _ rfl;rw [Nat.add_zero, show ((Kd.slice 36 (Kd.slice 3 (Kd.int .i64)))).sz = 1 from rfl, Nat.mul_one] at hv315_0;replace hv315_0 := Option.some.inj (hv315_0.symm.trans hx315_0);injection hv315_0 with hva_ hvn_ hvc_;rw [hva_] at ge315_0;rw [hvc_] at ul315_0;have HL315_0 := aM (show Kd.V (Kd.slice 3 (Kd.int .i64)) 36 _ w.heap.size _ _ (rd_L3 t306 t312) from Kd.V_mk ul315_0 ge315_0);clear hva_ hvn_ hvc_ ge315_0 ul315_0;clear hcc315 hce315;have HR315_0 := Aside0.mk hi315_0;have HC315_0 := Aside0.mk hl315_0;clear hi315_0 hl315_0;replace p315 := eq_true p315;replace q315 := eq_true q315;have p316 : 0 ≤ (x14_2 : Int) := oA;have q316 : x14_2 < ((rd_L3 t306 t312).length : Int) := oA;obtain ⟨ad316, A316_0, c316_0, e316, hx316_0, hl316_0, hi316_0⟩ := at_L2 (by repeat (first | (with_reducible exact HR315_0.out) | (with_reducible refine Kd.C_alloc ?_ _) | (with_reducible refine Kd.C_drewN ?_ _) | (with_reducible refine Kd.C_drew ?_) | exact HR315_0.out)) x14_2 p316 q316;cases e316;obtain ⟨ce316, hce316, hMe316, hcc316⟩ := Kd.V_get HL315_0.out [] x14_2 p316 (by first | exact q316 | exact oA | (have e_ := (Kd.V_reads' HL315_0.out).1;omega));obtain ⟨ua316_0, uc316_0, rfl, ul316_0, ge316_0⟩ := Kd.FK_slice_open hMe316;have hv316_0 := hcc316 0 _ rfl;rw [Nat.add_zero, show ((Kd.slice 3 (Kd.int .i64))).sz = 1 from rfl, Nat.mul_one] at hv316_0;replace hv316_0 := Option.some.inj (hv316_0.symm.trans hx316_0);injection hv316_0 with hva_ hvn_ hvc_;rw [hva_] at ge316_0;rw [hvc_] at ul316_0;have HL316_0 := aM (show Kd.V (Kd.int .i64) 3 _ w.heap.size _ _ (rd_L2 (rd_L3 t306 t312) x14_2) from Kd.V_mk ul316_0 ge316_0);clear hva_ hvn_ hvc_ ge316_0 ul316_0;clear hcc316 hce316;have HR316_0 := Aside0.mk hi316_0;have HC316_0 := Aside0.mk hl316_0;clear hi316_0 hl316_0;replace p316 := eq_true p316;replace q316 := eq_true q316) | ((with_reducible refine gate_callee (f := 44) rfl ?_);refine goesL_ (some 63) rfl rfl Tryd.func44 (by kernel_rfl) rfl #[.slice A316_0 (rd_L2 (rd_L3 t306 t312) x14_2).length c316_0, .slice (some ad313) t309.length co38] rfl mM ?_;(with_reducible refine (spec_l10After.calls k2 _ _ (rd_L2 (rd_L3 t306 t312) x14_2) _ _ t309 t317 false _ ?side1 ?side2 ?side3 ?side4 A47.out).mono ?_);(case side1 => exact cP (by repeat (first | (with_reducible exact HR316_0.out) | (with_reducible refine Kd.C_alloc ?_ _) | (with_reducible refine Kd.C_drewN ?_ _) | (with_reducible refine Kd.C_drew ?_) | exact HR316_0.out)));(case side2 => exact HC316_0.out);(case side3 => exact cP (Kd.R_reads' HO_12.out).2.2);(case side4 => exact (Kd.R_reads' HO_12.out).2.1);rintro e w' ⟨rfl, ⟨nd, rfl⟩⟩;refine ⟨_, rfl, ?_⟩))
      go_ret2
      exact ⟨eW, by exact bB⟩
     subst c48
     have H1 : (if t317 ≥ 0 then (if x9_2 < 0 then (spec_WorstAttack.l0 k2 l1 x14_2 t317 t306 t309 t312 (wrap64 (x14_2 + 1)) a0_0 l0_1) else (if t317 < x10_2 then (spec_WorstAttack.l0 k2 l1 x14_2 t317 t306 t309 t312 (wrap64 (x14_2 + 1)) a0_0 l0_1) else (spec_WorstAttack.l0 k2 l1 x9_2 x10_2 t306 t309 t312 (wrap64 (x14_2 + 1)) a0_0 l0_1))) else (spec_WorstAttack.l0 k2 l1 x9_2 x10_2 t306 t309 t312 (wrap64 (x14_2 + 1)) a0_0 l0_1)) = some (r1, r2) := by rw [if_pos rfl] at H;exact H
     clear H
     have H := H1
     clear H1
     by_cases c49 : t317 ≥ 0
     rotate_left
     ·rw [if_neg c49] at H
      have c49b0 : decide (0 ≤ t317) = false := decide_eq_false c49
      clear c49
      have H' := Aside0.mk H
      clear H
      have hcz55_0 := bC0 BK300.out
      have hcz55_1 := bC1 BK300.out
      have hfz55_0 := blk_frozen BK300.out 0
      have hfz55_1 := blk_frozen BK300.out 1
      go_wp2_with (first | ((with_reducible refine gate_callee (f := 43) rfl ?_);refine goesL_ (some 53) rfl rfl Tryd.func43 (by kernel_rfl) rfl #[.slice A1 l1.length c1, .int .i64 x14_2] rfl mM ?_;(with_reducible refine (spec_l1Has.calls k2 _ _ l1 x14_2 false _ ?side1 ?side2 A40.out).mono ?_);(case side1 => exact cP (Kd.C_below HR1.out HB.out));(case side2 => exact HC1.out);rintro e w' ⟨rfl, ⟨nd, rfl⟩⟩;refine ⟨_, rfl, ?_⟩;have p315 : 0 ≤ (t312 : Int) := oA;have q315 : t312 < (t306.length : Int) := oA;obtain ⟨ad315, A315_0, c315_0, e315, hx315_0, hl315_0, hi315_0⟩ := at_L3 (Kd.N_reads' HO_11.out).2.2 t312 p315 q315;cases e315;obtain ⟨ce315, hce315, hMe315, hcc315⟩ := Kd.N_get HO_11.out [] t312 p315 (by first | exact q315 | exact oA | (have e_ := (Kd.N_reads' HO_11.out).1;omega));obtain ⟨ua315_0, uc315_0, rfl, ul315_0, ge315_0⟩ := Kd.FK_slice_open hMe315;have hv315_0 := hcc315 0 _ rfl;rw [Nat.add_zero, show ((Kd.slice 36 (Kd.slice 3 (Kd.int .i64)))).sz = 1 from rfl, Nat.mul_one] at hv315_0;replace hv315_0 := Option.some.inj (hv315_0.symm.trans hx315_0);injection hv315_0 with hva_ hvn_ hvc_;rw [hva_] at ge315_0;rw [hvc_] at ul315_0;have HL315_0 := aM (show Kd.V (Kd.slice 3 (Kd.int .i64)) 36 _ w.heap.size _ _ (rd_L3 t306 t312) from Kd.V_mk ul315_0 ge315_0);clear hva_ hvn_ hvc_ ge315_0 ul315_0;clear hcc315 hce315;have HR315_0 := Aside0.mk hi315_0;have HC315_0 := Aside0.mk hl315_0;clear hi315_0 hl315_0;replace p315 := eq_true p315;replace q315 := eq_true q315;have p316 : 0 ≤ (x14_2 : Int) := oA;have q316 : x14_2 < ((rd_L3 t306 t312).length : Int) := oA;obtain ⟨ad316, A316_0, c316_0, e316, hx316_0, hl316_0, hi316_0⟩ := at_L2 (by repeat (first | (with_reducible exact HR315_0.out) | (with_reducible refine Kd.C_alloc ?_ _) | (with_reducible refine Kd.C_drewN ?_ _) | (with_reducible refine Kd.C_drew ?_) | exact HR315_0.out)) x14_2 p316 q316;cases e316;obtain ⟨ce316, hce316, hMe316, hcc316⟩ := Kd.V_get HL315_0.out [] x14_2 p316 (by first | exact q316 | exact oA | (have e_ := (Kd.V_reads' HL315_0.out).1;omega));obtain ⟨ua316_0, uc316_0, rfl, ul316_0, ge316_0⟩ := Kd.FK_slice_open hMe316;have hv316_0 := hcc316 0 _ rfl;rw [Nat.add_zero, show ((Kd.slice 3 (Kd.int .i64))).sz = 1 from rfl, Nat.mul_one] at hv316_0;replace hv316_0 := Option.some.inj (hv316_0.symm.trans hx316_0);injection hv316_0 with hva_ hvn_ hvc_;rw [hva_] at ge316_0;rw [hvc_] at ul316_0;have HL316_0 := aM (show Kd.V (Kd.int .i64) 3 _ w.heap.size _ _ (rd_L2 (rd_L3 t306 t312) x14_2) from Kd.V_mk ul316_0 ge316_0);clear hva_ hvn_ hvc_ ge316_0 ul316_0;clear hcc316 hce316;have HR316_0 := Aside0.mk hi316_0;have HC316_0 := Aside0.mk hl316_0;clear hi316_0 hl316_0;replace p316 := eq_true p316;replace q316 := eq_true q316) | ((with_reducible refine gate_callee (f := 44) rfl ?_);refine goesL_ (some 63) rfl rfl Tryd.func44 (by kernel_rfl) rfl #[.slice A316_0 (rd_L2 (rd_L3 t306 t312) x14_2).length c316_0, .slice (some ad313) t309.length co38] rfl mM ?_;(with_reducible refine (spec_l10After.calls k2 _ _ (rd_L2 (rd_L3 t306 t312) x14_2) _ _ t309 t317 true _ ?side1 ?side2 ?side3 ?side4 A47.out).mono ?_);(case side1 => exact cP (by repeat (first | (with_reducible exact HR316_0.out) | (with_reducible refine Kd.C_alloc ?_ _) | (with_reducible refine Kd.C_drewN ?_ _) | (with_reducible refine Kd.C_drew ?_) | exact HR316_0.out)));(case side2 => exact HC316_0.out);(case side3 => exact cP (Kd.R_reads' HO_12.out).2.2);(case side4 => exact (Kd.R_reads' HO_12.out).2.1);rintro e w' ⟨rfl, ⟨nd, rfl⟩⟩;refine ⟨_, rfl, ?_⟩))
      go_roundg k2
      case measure => have := HJ3.out;have := HK2.out;omega
      case rel => exact ⟨(x9_2), (x10_2), (wrap64 (x14_2 + 1)), eF, eF, eF, H', ⟨by have := HJ3.out;have := HK2.out;omega⟩, ⟨by (with_reducible repeat (first | apply Kd.N_alloc | apply Kd.N_drewN | apply Kd.N_drew));exact HO_11.out⟩, ⟨by exact rP HO_12.out⟩, ⟨by exact kP BK300.out⟩, ⟨by exact bB⟩⟩
     rw [if_pos c49] at H
     have c49b0 : decide (0 ≤ t317) = true := decide_eq_true c49
     clear c49
     by_cases c50 : x9_2 < 0
     ·rw [if_pos c50] at H
      have c50b0 : decide (x9_2 < 0) = true := decide_eq_true c50
      clear c50
      have H' := Aside0.mk H
      clear H
      have hcz51_0 := bC0 BK300.out
      have hcz51_1 := bC1 BK300.out
      have hfz51_0 := blk_frozen BK300.out 0
      have hfz51_1 := blk_frozen BK300.out 1
      go_wp2_with (first | ((with_reducible refine gate_callee (f := 43) rfl ?_);refine goesL_ (some 53) rfl rfl Tryd.func43 (by kernel_rfl) rfl #[.slice A1 l1.length c1, .int .i64 x14_2] rfl mM ?_;(with_reducible refine (spec_l1Has.calls k2 _ _ l1 x14_2 false _ ?side1 ?side2 A40.out).mono ?_);(case side1 => exact cP (Kd.C_below HR1.out HB.out));(case side2 => exact HC1.out);rintro e w' ⟨rfl, ⟨nd, rfl⟩⟩;refine ⟨_, rfl, ?_⟩;have p315 : 0 ≤ (t312 : Int) := oA;have q315 : t312 < (t306.length : Int) := oA;obtain ⟨ad315, A315_0, c315_0, e315, hx315_0, hl315_0, hi315_0⟩ := at_L3 (Kd.N_reads' HO_11.out).2.2 t312 p315 q315;cases e315;obtain ⟨ce315, hce315, hMe315, hcc315⟩ := Kd.N_get HO_11.out [] t312 p315 (by first | exact q315 | exact oA | (have e_ := (Kd.N_reads' HO_11.out).1;omega));obtain ⟨ua315_0, uc315_0, rfl, ul315_0, ge315_0⟩ := Kd.FK_slice_open hMe315;have hv315_0 := hcc315 0 _ rfl;rw [Nat.add_zero, show ((Kd.slice 36 (Kd.slice 3 (Kd.int .i64)))).sz = 1 from rfl, Nat.mul_one] at hv315_0;replace hv315_0 := Option.some.inj (hv315_0.symm.trans hx315_0);injection hv315_0 with hva_ hvn_ hvc_;rw [hva_] at ge315_0;rw [hvc_] at ul315_0;have HL315_0 := aM (show Kd.V (Kd.slice 3 (Kd.int .i64)) 36 _ w.heap.size _ _ (rd_L3 t306 t312) from Kd.V_mk ul315_0 ge315_0);clear hva_ hvn_ hvc_ ge315_0 ul315_0;clear hcc315 hce315;have HR315_0 := Aside0.mk hi315_0;have HC315_0 := Aside0.mk hl315_0;clear hi315_0 hl315_0;replace p315 := eq_true p315;replace q315 := eq_true q315;have p316 : 0 ≤ (x14_2 : Int) := oA;have q316 : x14_2 < ((rd_L3 t306 t312).length : Int) := oA;obtain ⟨ad316, A316_0, c316_0, e316, hx316_0, hl316_0, hi316_0⟩ := at_L2 (by repeat (first | (with_reducible exact HR315_0.out) | (with_reducible refine Kd.C_alloc ?_ _) | (with_reducible refine Kd.C_drewN ?_ _) | (with_reducible refine Kd.C_drew ?_) | exact HR315_0.out)) x14_2 p316 q316;cases e316;obtain ⟨ce316, hce316, hMe316, hcc316⟩ := Kd.V_get HL315_0.out [] x14_2 p316 (by first | exact q316 | exact oA | (have e_ := (Kd.V_reads' HL315_0.out).1;omega));obtain ⟨ua316_0, uc316_0, rfl, ul316_0, ge316_0⟩ := Kd.FK_slice_open hMe316;have hv316_0 := hcc316 0 _ rfl;rw [Nat.add_zero, show ((Kd.slice 3 (Kd.int .i64))).sz = 1 from rfl, Nat.mul_one] at hv316_0;replace hv316_0 := Option.some.inj (hv316_0.symm.trans hx316_0);injection hv316_0 with hva_ hvn_ hvc_;rw [hva_] at ge316_0;rw [hvc_] at ul316_0;have HL316_0 := aM (show Kd.V (Kd.int .i64) 3 _ w.heap.size _ _ (rd_L2 (rd_L3 t306 t312) x14_2) from Kd.V_mk ul316_0 ge316_0);clear hva_ hvn_ hvc_ ge316_0 ul316_0;clear hcc316 hce316;have HR316_0 := Aside0.mk hi316_0;have HC316_0 := Aside0.mk hl316_0;clear hi316_0 hl316_0;replace p316 := eq_true p316;replace q316 := eq_true q316) | ((with_reducible refine gate_callee (f := 44) rfl ?_);refine goesL_ (some 63) rfl rfl Tryd.func44 (by kernel_rfl) rfl #[.slice A316_0 (rd_L2 (rd_L3 t306 t312) x14_2).length c316_0, .slice (some ad313) t309.length co38] rfl mM ?_;(with_reducible refine (spec_l10After.calls k2 _ _ (rd_L2 (rd_L3 t306 t312) x14_2) _ _ t309 t317 true _ ?side1 ?side2 ?side3 ?side4 A47.out).mono ?_);(case side1 => exact cP (by repeat (first | (with_reducible exact HR316_0.out) | (with_reducible refine Kd.C_alloc ?_ _) | (with_reducible refine Kd.C_drewN ?_ _) | (with_reducible refine Kd.C_drew ?_) | exact HR316_0.out)));(case side2 => exact HC316_0.out);(case side3 => exact cP (Kd.R_reads' HO_12.out).2.2);(case side4 => exact (Kd.R_reads' HO_12.out).2.1);rintro e w' ⟨rfl, ⟨nd, rfl⟩⟩;refine ⟨_, rfl, ?_⟩))
      go_roundg k2
      case measure => have := HJ3.out;have := HK2.out;omega
      case rel => exact ⟨(x14_2), (t317), (wrap64 (x14_2 + 1)), eF, eF, eF, H', ⟨by have := HJ3.out;have := HK2.out;omega⟩, ⟨by (with_reducible repeat (first | apply Kd.N_alloc | apply Kd.N_drewN | apply Kd.N_drew));exact HO_11.out⟩, ⟨by exact rP HO_12.out⟩, ⟨by exact kP BK300.out⟩, ⟨by exact bB⟩⟩
     rw [if_neg c50] at H
     have c50b0 : decide (x9_2 < 0) = false := decide_eq_false c50
     clear c50
     by_cases c52 : t317 < x10_2
     rotate_left
     ·rw [if_neg c52] at H
      have c52b0 : decide (t317 < x10_2) = false := decide_eq_false c52
      clear c52
      have H' := Aside0.mk H
      clear H
      have hcz54_0 := bC0 BK300.out
      have hcz54_1 := bC1 BK300.out
      have hfz54_0 := blk_frozen BK300.out 0
      have hfz54_1 := blk_frozen BK300.out 1
      go_wp2_with (first | ((with_reducible refine gate_callee (f := 43) rfl ?_);refine goesL_ (some 53) rfl rfl Tryd.func43 (by kernel_rfl) rfl #[.slice A1 l1.length c1, .int .i64 x14_2] rfl mM ?_;(with_reducible refine (spec_l1Has.calls k2 _ _ l1 x14_2 false _ ?side1 ?side2 A40.out).mono ?_);(case side1 => exact cP (Kd.C_below HR1.out HB.out));(case side2 => exact HC1.out);rintro e w' ⟨rfl, ⟨nd, rfl⟩⟩;refine ⟨_, rfl, ?_⟩;have p315 : 0 ≤ (t312 : Int) := oA;have q315 : t312 < (t306.length : Int) := oA;obtain ⟨ad315, A315_0, c315_0, e315, hx315_0, hl315_0, hi315_0⟩ := at_L3 (Kd.N_reads' HO_11.out).2.2 t312 p315 q315;cases e315;obtain ⟨ce315, hce315, hMe315, hcc315⟩ := Kd.N_get HO_11.out [] t312 p315 (by first | exact q315 | exact oA | (have e_ := (Kd.N_reads' HO_11.out).1;omega));obtain ⟨ua315_0, uc315_0, rfl, ul315_0, ge315_0⟩ := Kd.FK_slice_open hMe315;have hv315_0 := hcc315 0 _ rfl;rw [Nat.add_zero, show ((Kd.slice 36 (Kd.slice 3 (Kd.int .i64)))).sz = 1 from rfl, Nat.mul_one] at hv315_0;replace hv315_0 := Option.some.inj (hv315_0.symm.trans hx315_0);injection hv315_0 with hva_ hvn_ hvc_;rw [hva_] at ge315_0;rw [hvc_] at ul315_0;have HL315_0 := aM (show Kd.V (Kd.slice 3 (Kd.int .i64)) 36 _ w.heap.size _ _ (rd_L3 t306 t312) from Kd.V_mk ul315_0 ge315_0);clear hva_ hvn_ hvc_ ge315_0 ul315_0;clear hcc315 hce315;have HR315_0 := Aside0.mk hi315_0;have HC315_0 := Aside0.mk hl315_0;clear hi315_0 hl315_0;replace p315 := eq_true p315;replace q315 := eq_true q315;have p316 : 0 ≤ (x14_2 : Int) := oA;have q316 : x14_2 < ((rd_L3 t306 t312).length : Int) := oA;obtain ⟨ad316, A316_0, c316_0, e316, hx316_0, hl316_0, hi316_0⟩ := at_L2 (by repeat (first | (with_reducible exact HR315_0.out) | (with_reducible refine Kd.C_alloc ?_ _) | (with_reducible refine Kd.C_drewN ?_ _) | (with_reducible refine Kd.C_drew ?_) | exact HR315_0.out)) x14_2 p316 q316;cases e316;obtain ⟨ce316, hce316, hMe316, hcc316⟩ := Kd.V_get HL315_0.out [] x14_2 p316 (by first | exact q316 | exact oA | (have e_ := (Kd.V_reads' HL315_0.out).1;omega));obtain ⟨ua316_0, uc316_0, rfl, ul316_0, ge316_0⟩ := Kd.FK_slice_open hMe316;have hv316_0 := hcc316 0 _ rfl;rw [Nat.add_zero, show ((Kd.slice 3 (Kd.int .i64))).sz = 1 from rfl, Nat.mul_one] at hv316_0;replace hv316_0 := Option.some.inj (hv316_0.symm.trans hx316_0);injection hv316_0 with hva_ hvn_ hvc_;rw [hva_] at ge316_0;rw [hvc_] at ul316_0;have HL316_0 := aM (show Kd.V (Kd.int .i64) 3 _ w.heap.size _ _ (rd_L2 (rd_L3 t306 t312) x14_2) from Kd.V_mk ul316_0 ge316_0);clear hva_ hvn_ hvc_ ge316_0 ul316_0;clear hcc316 hce316;have HR316_0 := Aside0.mk hi316_0;have HC316_0 := Aside0.mk hl316_0;clear hi316_0 hl316_0;replace p316 := eq_true p316;replace q316 := eq_true q316) | ((with_reducible refine gate_callee (f := 44) rfl ?_);refine goesL_ (some 63) rfl rfl Tryd.func44 (by kernel_rfl) rfl #[.slice A316_0 (rd_L2 (rd_L3 t306 t312) x14_2).length c316_0, .slice (some ad313) t309.length co38] rfl mM ?_;(with_reducible refine (spec_l10After.calls k2 _ _ (rd_L2 (rd_L3 t306 t312) x14_2) _ _ t309 t317 true _ ?side1 ?side2 ?side3 ?side4 A47.out).mono ?_);(case side1 => exact cP (by repeat (first | (with_reducible exact HR316_0.out) | (with_reducible refine Kd.C_alloc ?_ _) | (with_reducible refine Kd.C_drewN ?_ _) | (with_reducible refine Kd.C_drew ?_) | exact HR316_0.out)));(case side2 => exact HC316_0.out);(case side3 => exact cP (Kd.R_reads' HO_12.out).2.2);(case side4 => exact (Kd.R_reads' HO_12.out).2.1);rintro e w' ⟨rfl, ⟨nd, rfl⟩⟩;refine ⟨_, rfl, ?_⟩))
      go_roundg k2
      case measure => have := HJ3.out;have := HK2.out;omega
      case rel => exact ⟨(x9_2), (x10_2), (wrap64 (x14_2 + 1)), eF, eF, eF, H', ⟨by have := HJ3.out;have := HK2.out;omega⟩, ⟨by (with_reducible repeat (first | apply Kd.N_alloc | apply Kd.N_drewN | apply Kd.N_drew));exact HO_11.out⟩, ⟨by exact rP HO_12.out⟩, ⟨by exact kP BK300.out⟩, ⟨by exact bB⟩⟩
     rw [if_pos c52] at H
     have c52b0 : decide (t317 < x10_2) = true := decide_eq_true c52
     clear c52
     have H' := Aside0.mk H
     clear H
     have hcz53_0 := bC0 BK300.out
     have hcz53_1 := bC1 BK300.out
     have hfz53_0 := blk_frozen BK300.out 0
     have hfz53_1 := blk_frozen BK300.out 1
     go_wp2_with (first | ((with_reducible refine gate_callee (f := 43) rfl ?_);refine goesL_ (some 53) rfl rfl Tryd.func43 (by kernel_rfl) rfl #[.slice A1 l1.length c1, .int .i64 x14_2] rfl mM ?_;(with_reducible refine (spec_l1Has.calls k2 _ _ l1 x14_2 false _ ?side1 ?side2 A40.out).mono ?_);(case side1 => exact cP (Kd.C_below HR1.out HB.out));(case side2 => exact HC1.out);rintro e w' ⟨rfl, ⟨nd, rfl⟩⟩;refine ⟨_, rfl, ?_⟩;have p315 : 0 ≤ (t312 : Int) := oA;have q315 : t312 < (t306.length : Int) := oA;obtain ⟨ad315, A315_0, c315_0, e315, hx315_0, hl315_0, hi315_0⟩ := at_L3 (Kd.N_reads' HO_11.out).2.2 t312 p315 q315;cases e315;obtain ⟨ce315, hce315, hMe315, hcc315⟩ := Kd.N_get HO_11.out [] t312 p315 (by first | exact q315 | exact oA | (have e_ := (Kd.N_reads' HO_11.out).1;omega));obtain ⟨ua315_0, uc315_0, rfl, ul315_0, ge315_0⟩ := Kd.FK_slice_open hMe315;have hv315_0 := hcc315 0 _ rfl;rw [Nat.add_zero, show ((Kd.slice 36 (Kd.slice 3 (Kd.int .i64)))).sz = 1 from rfl, Nat.mul_one] at hv315_0;replace hv315_0 := Option.some.inj (hv315_0.symm.trans hx315_0);injection hv315_0 with hva_ hvn_ hvc_;rw [hva_] at ge315_0;rw [hvc_] at ul315_0;have HL315_0 := aM (show Kd.V (Kd.slice 3 (Kd.int .i64)) 36 _ w.heap.size _ _ (rd_L3 t306 t312) from Kd.V_mk ul315_0 ge315_0);clear hva_ hvn_ hvc_ ge315_0 ul315_0;clear hcc315 hce315;have HR315_0 := Aside0.mk hi315_0;have HC315_0 := Aside0.mk hl315_0;clear hi315_0 hl315_0;replace p315 := eq_true p315;replace q315 := eq_true q315;have p316 : 0 ≤ (x14_2 : Int) := oA;have q316 : x14_2 < ((rd_L3 t306 t312).length : Int) := oA;obtain ⟨ad316, A316_0, c316_0, e316, hx316_0, hl316_0, hi316_0⟩ := at_L2 (by repeat (first | (with_reducible exact HR315_0.out) | (with_reducible refine Kd.C_alloc ?_ _) | (with_reducible refine Kd.C_drewN ?_ _) | (with_reducible refine Kd.C_drew ?_) | exact HR315_0.out)) x14_2 p316 q316;cases e316;obtain ⟨ce316, hce316, hMe316, hcc316⟩ := Kd.V_get HL315_0.out [] x14_2 p316 (by first | exact q316 | exact oA | (have e_ := (Kd.V_reads' HL315_0.out).1;omega));obtain ⟨ua316_0, uc316_0, rfl, ul316_0, ge316_0⟩ := Kd.FK_slice_open hMe316;have hv316_0 := hcc316 0 _ rfl;rw [Nat.add_zero, show ((Kd.slice 3 (Kd.int .i64))).sz = 1 from rfl, Nat.mul_one] at hv316_0;replace hv316_0 := Option.some.inj (hv316_0.symm.trans hx316_0);injection hv316_0 with hva_ hvn_ hvc_;rw [hva_] at ge316_0;rw [hvc_] at ul316_0;have HL316_0 := aM (show Kd.V (Kd.int .i64) 3 _ w.heap.size _ _ (rd_L2 (rd_L3 t306 t312) x14_2) from Kd.V_mk ul316_0 ge316_0);clear hva_ hvn_ hvc_ ge316_0 ul316_0;clear hcc316 hce316;have HR316_0 := Aside0.mk hi316_0;have HC316_0 := Aside0.mk hl316_0;clear hi316_0 hl316_0;replace p316 := eq_true p316;replace q316 := eq_true q316) | ((with_reducible refine gate_callee (f := 44) rfl ?_);refine goesL_ (some 63) rfl rfl Tryd.func44 (by kernel_rfl) rfl #[.slice A316_0 (rd_L2 (rd_L3 t306 t312) x14_2).length c316_0, .slice (some ad313) t309.length co38] rfl mM ?_;(with_reducible refine (spec_l10After.calls k2 _ _ (rd_L2 (rd_L3 t306 t312) x14_2) _ _ t309 t317 true _ ?side1 ?side2 ?side3 ?side4 A47.out).mono ?_);(case side1 => exact cP (by repeat (first | (with_reducible exact HR316_0.out) | (with_reducible refine Kd.C_alloc ?_ _) | (with_reducible refine Kd.C_drewN ?_ _) | (with_reducible refine Kd.C_drew ?_) | exact HR316_0.out)));(case side2 => exact HC316_0.out);(case side3 => exact cP (Kd.R_reads' HO_12.out).2.2);(case side4 => exact (Kd.R_reads' HO_12.out).2.1);rintro e w' ⟨rfl, ⟨nd, rfl⟩⟩;refine ⟨_, rfl, ?_⟩))
     go_roundg k2
     case measure => have := HJ3.out;have := HK2.out;omega
     case rel => exact ⟨(x14_2), (t317), (wrap64 (x14_2 + 1)), eF, eF, eF, H', ⟨by have := HJ3.out;have := HK2.out;omega⟩, ⟨by (with_reducible repeat (first | apply Kd.N_alloc | apply Kd.N_drewN | apply Kd.N_drew));exact HO_11.out⟩, ⟨by exact rP HO_12.out⟩, ⟨by exact kP BK300.out⟩, ⟨by exact bB⟩⟩


/-! ### laws_toIntS: function 17 -/
def laws_toIntS.l0 : Nat → List Int → List Int → Int → Option (List Int)
 | 0, _, _, _ => none
 | k + 1, x0, x3, x4 => if x4 < (x0.length : Int) then (if 0 ≤ x4 then (if x4 < (x3.length : Int) then (laws_toIntS.l0 k x0 (x3.set (x4 : Int).toNat (rd x0 x4)) (wrap64 (x4 + 1))) else (none)) else (none)) else (some x3)
def laws_toIntS.f (k : Nat) (l0 : List Int) : Option (List Int) := if 0 ≤ (l0.length : Int) then (if ((l0.length : Int) : Int).toNat ≤ 35184372088832 then (laws_toIntS.l0 k l0 (List.replicate ((l0.length : Int) : Int).toNat 0) 0) else (none)) else (none)
theorem laws_toIntS.mono_l : ∀ k, (∀ y0 y1 y2, LeO (laws_toIntS.l0 k y0 y1 y2) (laws_toIntS.l0 (k + 1) y0 y1 y2))
 | 0 => fun _ _ _ r h => by simp [laws_toIntS.l0] at h
 | k + 1 => by
  have ih0 := laws_toIntS.mono_l k
  ·intro y0 y1 y2
   unfold laws_toIntS.l0
   repeat' first
   | (with_reducible exact ih0 _ _ _)
   | (with_reducible exact LeO.refl _)
   | (with_reducible exact LeO.none _)
   | (with_reducible refine LeO.ite ?_ ?_)
   | (with_reducible refine LeO.bind ?_ (fun _ => ?_))
   | exact LeO.none _
   | refine LeO.ite ?_ ?_
   | refine LeO.bind ?_ (fun _ => ?_)
theorem laws_toIntS.mono : ∀ a0 k, LeO (laws_toIntS.f k a0) (laws_toIntS.f (k + 1) a0) := by
 intro a0 k
 have ih0 := laws_toIntS.mono_l k
 unfold laws_toIntS.f
 repeat' first
   | (with_reducible exact ih0 _ _ _)
   | (with_reducible exact LeO.refl _)
   | (with_reducible exact LeO.none _)
   | (with_reducible refine LeO.ite ?_ ?_)
   | (with_reducible refine LeO.bind ?_ (fun _ => ?_))
   | exact LeO.none _
   | refine LeO.ite ?_ ?_
   | refine LeO.bind ?_ (fun _ => ?_)
theorem laws_toIntS.calls (k : Nat) (A0 : Option Addr) (c0 : Nat) (l0 : List Int) (r : List Int) (w : World) (hr0 : Kd.C (Kd.int .i64) w A0 l0.length l0) (hc0 : l0.length ≤ c0) (h : laws_toIntS.f k l0 = some r) :
  Calls Tryd.prog 17 #[.slice A0 l0.length c0] w fun e w' => ∃ v0_ : Value, e = .returned (v0_) ∧ Kd.R (Kd.int .i64) 3 w' w.heap.size (fun _ => True) v0_ r ∧ Below w.heap.size w w' := by
 have HR0 := Aside0.mk hr0
 have HC0 := Aside0.mk hc0
 clear hr0 hc0
 have HB := aM (Below.refl w.heap.size w)
 have H : (if 0 ≤ (l0.length : Int) then (if ((l0.length : Int) : Int).toNat ≤ 35184372088832 then (laws_toIntS.l0 k l0 (List.replicate ((l0.length : Int) : Int).toNat 0) 0) else (none)) else (none)) = some r := h
 clear h
 by_cases c2 : 0 ≤ (l0.length : Int)
 rotate_left
 ·rw [if_neg c2] at H
  exact absurd H (by simp)
 rw [if_pos c2] at H
 have c2b0 := eq_true c2
 have c2b1 : decide (0 ≤ (l0.length : Int)) = true := decide_eq_true c2
 clear c2
 by_cases c3 : ((l0.length : Int) : Int).toNat ≤ 35184372088832
 rotate_left
 ·rw [if_neg c3] at H
  exact absurd H (by simp)
 rw [if_pos c3] at H
 have c3b0 := eq_true c3
 have c3b1 : decide (((l0.length : Int) : Int).toNat ≤ 35184372088832) = true := decide_eq_true c3
 clear c3
 obtain ⟨y319, hy319⟩ : ∃ y_ : List Int, y_ = (List.replicate ((l0.length : Int) : Int).toNat 0) := ⟨_, rfl⟩
 replace H : (laws_toIntS.l0 k l0 y319 0) = some r := by first | (rw [hy319];with_reducible exact H) | (have H2_ := (Option.bind_some _ _).symm.trans H;rw [hy319];with_reducible exact H2_) | (have H2_ := (Option.bind_some _ _).symm.trans H;with_reducible exact H2_) | with_reducible exact H | (rw [hy319];exact H) | exact H
 have Ny319 := Aside0.mk hy319
 clear hy319
 have H' := Aside0.mk H
 clear H
 go_enter Tryd.func17, Tryd.ntmps17
 go_wp2_with (first | ((with_reducible refine gate_dst (N := 7) rfl ?_);refine Kd.R_make (Kd.int .i64) _ 3 rfl (N := 7) rfl 36 _ _ rfl (l0.length : Int) rfl rfl Tryd.underlying36 (.int .i64 0) 8 info3 rfl (by decide) (by omega) 0 (ok := fun _ => True) (okp := fun _ => True) rfl (fun _ hk => hk) trivial (oA) (Nat.le_trans (Nat.mul_le_mul_right _ (oA : (l0.length : Int).toNat ≤ 35184372088832)) (by omega)) (Below.refl _ _) (Nat.le_refl _) ?_;intro v320 w4 ho5 hb hg_ hnew_;clear hg_ hnew_;(first | rw [← Ny319.out] at ho5 | (simp only [Int.reduceToNat] at ho5;rw [← Ny319.out] at ho5));have n0_ := aM (Kd.R_lower ho5 (below_size (by exact bB)));have n1_ := aM (below_step (by exact bB) hb);clear HB;have HO321 := n0_;have HB := n1_;clear n0_ n1_;clear hb ho5))
 go_loopg [4] k (fun kq v4 w' => ∃ (x3_1 : List Int) (x4_1 : Int), v4 = .int .i64 x4_1 ∧ Aside0 (laws_toIntS.l0 kq l0 x3_1 x4_1 = some r) ∧ Aside0 (kq ≤ k) ∧ Aside0 (Kd.R (Kd.int .i64) 3 w' w.heap.size (fun _ => True) v320 x3_1) ∧ Aside0 (Below w.heap.size w w'))
 case atStart => exact ⟨(y319), (0), eF, H', ⟨Nat.le_refl _⟩, ⟨by exact rP HO321.out⟩, ⟨by exact bB⟩⟩
 case round =>
  clear H'
  try clear c1
  try clear c2
  try clear c2b0
  try clear c2b1
  try clear p2
  try clear c3
  try clear c3b0
  try clear c3b1
  obtain ⟨x3_1, x4_1, rfl, HA, HK1, HO_3, HB⟩ := hrel
  cases gk with
  | zero => exact absurd HA.out (by simp [laws_toIntS.l0])
  | succ k1 =>
   have H := HA.out
   clear HA
   simp only [laws_toIntS.l0] at H
   by_cases c6 : x4_1 < (l0.length : Int)
   rotate_left
   ·rw [if_neg c6] at H
    have c6b0 : decide (x4_1 < (l0.length : Int)) = false := decide_eq_false c6
    clear c6
    obtain rfl := Option.some.inj H
    go_wp2
    go_ret
    exact ⟨_, eW, by exact rP HO_3.out, by exact bB⟩
   rw [if_pos c6] at H
   have c6b0 : decide (x4_1 < (l0.length : Int)) = true := decide_eq_true c6
   clear c6
   by_cases c7 : 0 ≤ x4_1
   rotate_left
   ·rw [if_neg c7] at H
    exact absurd H (by simp)
   rw [if_pos c7] at H
   have c7b0 : decide (0 ≤ x4_1) = true := decide_eq_true c7
   clear c7
   by_cases c8 : x4_1 < (x3_1.length : Int)
   rotate_left
   ·rw [if_neg c8] at H
    exact absurd H (by simp)
   rw [if_pos c8] at H
   have c8b0 : decide (x4_1 < (x3_1.length : Int)) = true := decide_eq_true c8
   clear c8
   obtain ⟨y323, hy323⟩ : ∃ y_ : List Int, y_ = (x3_1.set (x4_1 : Int).toNat (rd l0 x4_1)) := ⟨_, rfl⟩
   replace H : (laws_toIntS.l0 k1 l0 y323 (wrap64 (x4_1 + 1))) = some r := by first | (rw [hy323];with_reducible exact H) | (have H2_ := (Option.bind_some _ _).symm.trans H;rw [hy323];with_reducible exact H2_) | (have H2_ := (Option.bind_some _ _).symm.trans H;with_reducible exact H2_) | with_reducible exact H | (rw [hy323];exact H) | exact H
   have Ny323 := Aside0.mk hy323
   clear hy323
   have H' := Aside0.mk H
   clear H
   have p322 : 0 ≤ (x4_1 : Int) := oA
   have q322 : x4_1 < (l0.length : Int) := oA
   obtain ⟨ad322, e322, hx322_0⟩ := Kd.at_int HR0.out x4_1 p322 q322
   cases e322
   replace hx322_0 := (HB.out.cell (World.block_lt_of_cell? w _ hx322_0)).trans hx322_0
   replace p322 := eq_true p322
   replace q322 := eq_true q322
   have p9 : 0 ≤ (x4_1 : Int) := oA
   have q9 : (x4_1 : Int) < ((x3_1.length : Int) : Int) := oA
   obtain ⟨go9, co9, eo9, gb9, gl9, cl9, HG9⟩ := Kd.R_form HO_3.out (by omega)
   (first | cases eo9 | (injection eo9 with ea_ en_ ec_;(first | subst ea_ | (injection ea_ with ea_;subst ea_));subst ec_;clear en_))
   have GB9 := Aside0.mk gb9
   have GG9 := Aside0.mk HG9
   clear gb9 gl9 HG9
   obtain ⟨hx9_0, hf9_0⟩ := Kd.R_celln 0 HO_3.out (x4_1 : Int) p9 q9
   replace p9 := eq_true p9
   replace q9 := eq_true q9
   have HP10 := Kd.R_putg HO_3.out (x4_1 : Int) (rd l0 x4_1)
   go_wp2_with (first | ((with_reducible refine gate_store (t := 3) (p := 20) rfl ?_);refine store_event (t := 3) (p := 20) (v := ?vo_w11) (w1 := (wr.setCell ⟨go9, (x4_1 : Int).toNat, none⟩ (.int .i64 (rd l0 x4_1)))) ?hg ?ho ?hn ?hr ?_;(case ho => rfl);(case hg => rfl);(case hn => rfl);(case hr => exact gS);intro w11 hw;have hg : wr.grownBy w11 (some go9) := (by rw [hw];exact HP10.2);have hp_ : Kd.R (Kd.int .i64) 3 w11 w.heap.size (fun _ => True) (.slice (some ⟨go9, 0, none⟩) x3_1.length co9) y323 := (by rw [hw, Ny323.out];exact HP10.1);clear HP10;have n0_ := aM (hp_);have n1_ := aM ((by rw [hw];exact below_set (HB.out) GB9.out : Below w.heap.size w w11));clear HO_3;clear HB;have HO_3 := n0_;have HB := n1_;clear n0_ n1_;clear hg hw hp_))
   go_roundg k1
   case measure => have := HK1.out;omega
   case rel => exact ⟨(y323), (wrap64 (x4_1 + 1)), eF, H', ⟨by have := HK1.out;omega⟩, ⟨by exact rP HO_3.out⟩, ⟨by exact bB⟩⟩


/-! ### laws_eqIntS: function 19 -/
def laws_eqIntS.l0 : Nat → List Int → List Int → Int → Option (Bool)
 | 0, _, _, _ => none
 | k + 1, x0, x1, x5 => if x5 < (x0.length : Int) then (if 0 ≤ x5 then (if x5 < (x1.length : Int) then (if (rd x0 x5) = (rd x1 x5) then (laws_eqIntS.l0 k x0 x1 (wrap64 (x5 + 1))) else (some false)) else (none)) else (none)) else (some true)
def laws_eqIntS.f (k : Nat) (l0 : List Int) (l1 : List Int) : Option (Bool) := if (l0.length : Int) = (l1.length : Int) then (laws_eqIntS.l0 k l0 l1 0) else (some false)
theorem laws_eqIntS.mono_l : ∀ k, (∀ y0 y1 y2, LeO (laws_eqIntS.l0 k y0 y1 y2) (laws_eqIntS.l0 (k + 1) y0 y1 y2))
 | 0 => fun _ _ _ r h => by simp [laws_eqIntS.l0] at h
 | k + 1 => by
  have ih0 := laws_eqIntS.mono_l k
  ·intro y0 y1 y2
   unfold laws_eqIntS.l0
   repeat' first
   | (with_reducible exact ih0 _ _ _)
   | (with_reducible exact LeO.refl _)
   | (with_reducible exact LeO.none _)
   | (with_reducible refine LeO.ite ?_ ?_)
   | (with_reducible refine LeO.bind ?_ (fun _ => ?_))
   | exact LeO.none _
   | refine LeO.ite ?_ ?_
   | refine LeO.bind ?_ (fun _ => ?_)
theorem laws_eqIntS.mono : ∀ a0 a1 k, LeO (laws_eqIntS.f k a0 a1) (laws_eqIntS.f (k + 1) a0 a1) := by
 intro a0 a1 k
 have ih0 := laws_eqIntS.mono_l k
 unfold laws_eqIntS.f
 repeat' first
   | (with_reducible exact ih0 _ _ _)
   | (with_reducible exact LeO.refl _)
   | (with_reducible exact LeO.none _)
   | (with_reducible refine LeO.ite ?_ ?_)
   | (with_reducible refine LeO.bind ?_ (fun _ => ?_))
   | exact LeO.none _
   | refine LeO.ite ?_ ?_
   | refine LeO.bind ?_ (fun _ => ?_)
theorem laws_eqIntS.calls (k : Nat) (A0 : Option Addr) (c0 : Nat) (l0 : List Int) (A1 : Option Addr) (c1 : Nat) (l1 : List Int) (r : Bool) (w : World) (hr0 : Kd.C (Kd.int .i64) w A0 l0.length l0) (hc0 : l0.length ≤ c0) (hr1 : Kd.C (Kd.int .i64) w A1 l1.length l1) (hc1 : l1.length ≤ c1) (h : laws_eqIntS.f k l0 l1 = some r) :
  Calls Tryd.prog 19 #[.slice A0 l0.length c0, .slice A1 l1.length c1] w fun e w' => e = .returned (.bool r) ∧ Drawn0 w w' := by
 have HR0 := Aside0.mk hr0
 have HC0 := Aside0.mk hc0
 clear hr0 hc0
 have HR1 := Aside0.mk hr1
 have HC1 := Aside0.mk hc1
 clear hr1 hc1
 have H : (if (l0.length : Int) = (l1.length : Int) then (laws_eqIntS.l0 k l0 l1 0) else (some false)) = some r := h
 clear h
 by_cases c3 : (l0.length : Int) = (l1.length : Int)
 rotate_left
 ·rw [if_neg c3] at H
  have c3b0 : ((l0.length : Int) == (l1.length : Int)) = false := beq_eq_false_iff_ne.mpr c3
  have c3b1 : ((l0.length : Int) != (l1.length : Int)) = true := bne_iff_ne.mpr c3
  have c3b2 : (l0.length == l1.length) = false := by first | simpa using c3 | (simp at c3 ⊢;omega)
  obtain rfl := Option.some.inj H
  go_enter Tryd.func19, Tryd.ntmps19
  go_wp2
  repeat (go_quiet (fail);try go_wp2)
  go_ret
  exact ⟨eF, dR⟩
 rw [if_pos c3] at H
 have c3b0 : ((l0.length : Int) == (l1.length : Int)) = true := beq_iff_eq.mpr c3
 have c3b1 : ((l0.length : Int) != (l1.length : Int)) = false := bne_eq_false_iff_eq.mpr c3
 have c3b2 : (l0.length == l1.length) = true := by first | simpa using c3 | (simp at c3 ⊢;omega)
 clear c3
 have H' := Aside0.mk H
 clear H
 go_enter Tryd.func19, Tryd.ntmps19
 go_wp2
 repeat (go_quiet (fail);try go_wp2)
 go_loopg [5] k (fun kq v5 w' => ∃ (x5_1 : Int), v5 = .int .i64 x5_1 ∧ Aside0 (laws_eqIntS.l0 kq l0 l1 x5_1 = some r) ∧ Aside0 (kq ≤ k) ∧ Drawn0 w w')
 case atStart => exact ⟨(0), eF, H', ⟨Nat.le_refl _⟩, dR⟩
 case round =>
  clear H'
  try clear c1
  try clear p2
  try clear c3
  try clear c3b0
  try clear c3b1
  try clear c3b2
  obtain ⟨x5_1, rfl, HA, HK1, ⟨m1, rfl⟩⟩ := hrel
  cases gk with
  | zero => exact absurd HA.out (by simp [laws_eqIntS.l0])
  | succ k1 =>
   have H := HA.out
   clear HA
   simp only [laws_eqIntS.l0] at H
   by_cases c4 : x5_1 < (l0.length : Int)
   rotate_left
   ·rw [if_neg c4] at H
    have c4b0 : decide (x5_1 < (l0.length : Int)) = false := decide_eq_false c4
    clear c4
    obtain rfl := Option.some.inj H
    go_wp2
    repeat (go_quiet (fail);try go_wp2)
    go_ret
    exact ⟨eF, dR⟩
   rw [if_pos c4] at H
   have c4b0 : decide (x5_1 < (l0.length : Int)) = true := decide_eq_true c4
   clear c4
   by_cases c5 : 0 ≤ x5_1
   rotate_left
   ·rw [if_neg c5] at H
    exact absurd H (by simp)
   rw [if_pos c5] at H
   have c5b0 : decide (0 ≤ x5_1) = true := decide_eq_true c5
   clear c5
   by_cases c6 : x5_1 < (l1.length : Int)
   rotate_left
   ·rw [if_neg c6] at H
    exact absurd H (by simp)
   rw [if_pos c6] at H
   have c6b0 : decide (x5_1 < (l1.length : Int)) = true := decide_eq_true c6
   clear c6
   by_cases c7 : (rd l0 x5_1) = (rd l1 x5_1)
   rotate_left
   ·rw [if_neg c7] at H
    have c7b0 : ((rd l0 x5_1) == (rd l1 x5_1)) = false := beq_eq_false_iff_ne.mpr c7
    have c7b1 : ((rd l0 x5_1) != (rd l1 x5_1)) = true := bne_iff_ne.mpr c7
    obtain rfl := Option.some.inj H
    have p364 : 0 ≤ (x5_1 : Int) := oA
    have q364 : x5_1 < (l0.length : Int) := oA
    obtain ⟨ad364, e364, hx364_0⟩ := Kd.at_int HR0.out x5_1 p364 q364
    cases e364
    replace p364 := eq_true p364
    replace q364 := eq_true q364
    have p365 : 0 ≤ (x5_1 : Int) := oA
    have q365 : x5_1 < (l1.length : Int) := oA
    obtain ⟨ad365, e365, hx365_0⟩ := Kd.at_int HR1.out x5_1 p365 q365
    cases e365
    replace p365 := eq_true p365
    replace q365 := eq_true q365
    go_wp2
    repeat (go_quiet (fail);try go_wp2)
    go_ret
    exact ⟨eF, dR⟩
   rw [if_pos c7] at H
   have c7b0 : ((rd l0 x5_1) == (rd l1 x5_1)) = true := beq_iff_eq.mpr c7
   have c7b1 : ((rd l0 x5_1) != (rd l1 x5_1)) = false := bne_eq_false_iff_eq.mpr c7
   clear c7
   have H' := Aside0.mk H
   clear H
   have p364 : 0 ≤ (x5_1 : Int) := oA
   have q364 : x5_1 < (l0.length : Int) := oA
   obtain ⟨ad364, e364, hx364_0⟩ := Kd.at_int HR0.out x5_1 p364 q364
   cases e364
   replace p364 := eq_true p364
   replace q364 := eq_true q364
   have p365 : 0 ≤ (x5_1 : Int) := oA
   have q365 : x5_1 < (l1.length : Int) := oA
   obtain ⟨ad365, e365, hx365_0⟩ := Kd.at_int HR1.out x5_1 p365 q365
   cases e365
   replace p365 := eq_true p365
   replace q365 := eq_true q365
   go_wp2
   repeat (go_quiet (fail);try go_wp2)
   go_roundg k1
   case measure => have := HK1.out;omega
   case rel => exact ⟨(wrap64 (x5_1 + 1)), eF, H', ⟨by have := HK1.out;omega⟩, dR⟩


/-! ### impl_within: function 31 -/
def impl_within.f (a0 : Int) (a1 : Int) (a2 : Int) : Option (Bool) := if a0 ≥ a1 then (some (decide (a0 ≤ a2))) else (some false)
theorem impl_within.calls (a0 : Int) (a1 : Int) (a2 : Int) (r : Bool) (w : World) (h : impl_within.f a0 a1 a2 = some r) :
  Calls Tryd.prog 31 #[.int .i64 a0, .int .i64 a1, .int .i64 a2] w fun e w' => e = .returned (.bool r) ∧ Drawn0 w w' := by
 have H : (if a0 ≥ a1 then (some (decide (a0 ≤ a2))) else (some false)) = some r := h
 clear h
 by_cases c4 : a0 ≥ a1
 rotate_left
 ·rw [if_neg c4] at H
  have c4b0 : decide (a1 ≤ a0) = false := decide_eq_false c4
  clear c4
  obtain rfl := Option.some.inj H
  go_enter Tryd.func31, Tryd.ntmps31
  go_wp2
  go_ret
  exact ⟨eF, dR⟩
 rw [if_pos c4] at H
 have c4b0 : decide (a1 ≤ a0) = true := decide_eq_true c4
 clear c4
 obtain rfl := Option.some.inj H
 go_enter Tryd.func31, Tryd.ntmps31
 go_wp2
 go_ret
 exact ⟨eF, dR⟩


/-! ### impl_netOf: by hand -/
def netStep (w : List Int) (e : S78) : List Int :=
 let w1 := w.set e.f0.toNat (Go.bits .or .i64 (rd w e.f0) (shl .i64 1 e.f1))
 w1.set e.f1.toNat (Go.bits .or .i64 (rd w1 e.f1) (shl .i64 1 e.f0))
def impl_netOf.f (a0_0 : Int) (l0_1 : List S78) : Option (List Int) := if decide (0 ≤ a0_0 ∧ a0_0 ≤ 8) && goodL a0_0 none l0_1 then some (l0_1.foldl netStep (List.replicate a0_0.toNat 0)) else none
theorem impl_netOf.calls (a0_0 : Int) (A0_1 : Option Addr) (c0_1 : Nat) (l0_1 : List (S78)) (r : List Int) (w : World) (hr0_1 : Kd.C k78 w A0_1 l0_1.length l0_1) (hc0_1 : l0_1.length ≤ c0_1) (h : impl_netOf.f a0_0 l0_1 = some r) :
  Calls Tryd.prog 32 #[.agg #[.int .i64 a0_0, .slice A0_1 l0_1.length c0_1]] w fun e w' => ∃ v0_ : Value, e = .returned (.agg #[v0_]) ∧ Kd.R (Kd.int .i64) 3 w' w.heap.size (fun _ => True) v0_ r ∧ Below w.heap.size w w' := by
 have hu29 := Tryd.underlying29
 have hu53 := Tryd.underlying56
 have hu72 := Tryd.underlying78
 have HR0_1 := Aside0.mk hr0_1
 have HC0_1 := Aside0.mk hc0_1
 clear hr0_1 hc0_1
 have HB := aM (Below.refl w.heap.size w)
 unfold impl_netOf.f at h
 by_cases hg : (decide (0 ≤ a0_0 ∧ a0_0 ≤ 8) && goodL a0_0 none l0_1) = true
 case neg => rw [if_neg hg] at h;cases h
 rw [if_pos hg] at h
 simp only [Bool.and_eq_true, decide_eq_true_eq] at hg
 obtain ⟨⟨hn0, hn8⟩, hg2⟩ := hg
 have HE := aM (goodL_all hg2)
 have c2b0 := eq_true hn0
 have c2b1 : decide (0 ≤ a0_0) = true := decide_eq_true hn0
 have hn35 : a0_0.toNat ≤ 35184372088832 := by omega
 have c3b0 := eq_true hn35
 have c3b1 : decide ((a0_0 : Int).toNat ≤ 35184372088832) = true := decide_eq_true hn35
 obtain ⟨y238, hy238⟩ : ∃ y_ : List Int, y_ = (List.replicate (a0_0 : Int).toNat 0) := ⟨_, rfl⟩
 rw [← hy238] at h
 have HN := aM (And.intro hn0 hn8)
 have HYL : Aside0 (y238.length = a0_0.toNat) := ⟨by rw [hy238];simp⟩
 have H' := aM (Option.some.inj h)
 have Ny238 := Aside0.mk hy238
 clear hy238 h hg2 hn0 hn8 hn35
 go_enter Tryd.func32, Tryd.ntmps32
 go_wp2_with (first | ((with_reducible refine gate_dst (N := 1) rfl ?_);refine box_event ?hg (N := 1) ?hd (cs := #[.int .i64 a0_0, .slice A0_1 l0_1.length c0_1]) (t := 29) ?hr ?_;(case hd => rfl);(case hg => rfl);(case hr => exact gS);intro gb236 hg w4 hbox hb;have n0_ := aM (below_step (by exact bB) hb);have n1_ := aM (hbox);have n2_ := aM (sW hg : w.heap.size ≤ gb236);have n3_ := aM (sW hg : w.heap.size ≤ gb236);clear HB;have HB := n0_;have BK236 := n1_;have GW236 := n2_;have GE236 := n3_;clear n0_ n1_ n2_ n3_;clear hb hbox hg) | ((with_reducible refine gate_dst (N := 2) rfl ?_);refine box_event ?hg (N := 2) ?hd (cs := #[.slice none 0 0]) (t := 56) ?hr ?_;(case hd => rfl);(case hg => rfl);(case hr => exact gS);intro gb237 hg w5 hbox hb;have n0_ := aM (kB hb BK236.out);have n1_ := aM (below_step (by exact bB) hb);have n2_ := aM (hbox);have n3_ := aM (sW hg : w.heap.size ≤ gb237);have n4_ := aM (sW hg : w.heap.size ≤ gb237);have n5_ := aM (nL hg (kP BK236.out));have n6_ := aM (nG hg (kP BK236.out));clear BK236;clear HB;have BK236 := n0_;have HB := n1_;have BK237 := n2_;have GW237 := n3_;have GE237 := n4_;have NB236_237 := n5_;have NB237_236 := n6_;clear n0_ n1_ n2_ n3_ n4_ n5_ n6_;clear hb hbox hg;have hnb6 := NB236_237.out;have hnc6 := NB237_236.out;have hcz7_0 := bC0 BK236.out;have hcz7_1 := bC1 BK236.out;have hfz7_0 := blk_frozen BK236.out 0;have hfz7_1 := blk_frozen BK236.out 1) | ((with_reducible refine gate_dst (N := 8) rfl ?_);refine Kd.R_make (Kd.int .i64) _ 3 rfl (N := 8) rfl 36 _ _ rfl a0_0 rfl rfl Tryd.underlying36 (.int .i64 0) 8 infoInt rfl (by decide) (by omega) 0 (ok := fun _ => True) (okp := fun _ => True) rfl (fun _ hk => hk) trivial (oA) (Nat.le_trans (Nat.mul_le_mul_right _ (oA : a0_0.toNat ≤ 35184372088832)) (by omega)) (Below.refl _ _) (Nat.le_refl _) ?_;intro v239 w8 ho9 hb hg_ hnew_;clear hg_ hnew_;(first | rw [← Ny238.out] at ho9 | (simp only [Int.reduceToNat] at ho9;rw [← Ny238.out] at ho9));have n0_ := aM (Kd.R_lower ho9 (below_size (by exact bB)));have n1_ := aM (kB hb BK236.out);have n2_ := aM (kB hb BK237.out);have n3_ := aM (below_step (by exact bB) hb);clear BK236;clear BK237;clear HB;have HO240 := n0_;have BK236 := n1_;have BK237 := n2_;have HB := n3_;clear n0_ n1_ n2_ n3_;clear hb ho9;obtain ⟨Ao10, co10, eo10⟩ := Kd.R_slice HO240.out;subst eo10) | ((with_reducible refine gate_dst (N := 3) rfl ?_);refine box_event ?hg (N := 3) ?hd (cs := #[.slice none 0 0]) (t := 56) ?hr ?_;(case hd => rfl);(case hg => rfl);(case hr => exact gS);intro gb241 hg w11 hbox hb;have n0_ := aM (Kd.R_below (by exact rP HO240.out) hb);have n1_ := aM (kB hb BK236.out);have n2_ := aM (kB hb BK237.out);have n3_ := aM (below_step (by exact bB) hb);have n4_ := aM (hbox);have n5_ := aM (sW hg : w.heap.size ≤ gb241);have n6_ := aM (sW hg : w.heap.size ≤ gb241);have n7_ := aM (nL hg (kP BK236.out));have n8_ := aM (nG hg (kP BK236.out));have n9_ := aM (nL hg (kP BK237.out));have n10_ := aM (nG hg (kP BK237.out));clear HO240;clear BK236;clear BK237;clear HB;have HO240 := n0_;have BK236 := n1_;have BK237 := n2_;have HB := n3_;have BK241 := n4_;have GW241 := n5_;have GE241 := n6_;have NB236_241 := n7_;have NB241_236 := n8_;have NB237_241 := n9_;have NB241_237 := n10_;clear n0_ n1_ n2_ n3_ n4_ n5_ n6_ n7_ n8_ n9_ n10_;clear hb hbox hg;have hnb12 := NB241_236.out;have hnc12 := NB236_241.out;have hnb13 := NB241_237.out;have hnc13 := NB237_241.out;have hcz14_0 := bC0 BK241.out;have hfz14_0 := blk_frozen BK241.out 0;have hcz15_0 := bC0 BK236.out;have hcz15_1 := bC1 BK236.out;have hfz15_0 := blk_frozen BK236.out 0;have hfz15_1 := blk_frozen BK236.out 1))
 go_loopw [13] (fun v13 w' => ∃ (x13_1 : Int) (x242000_1 : List Int) (u242000 : Value), v13 = .int .i64 x13_1 ∧ Aside0 (0 ≤ x13_1 ∧ x13_1 ≤ l0_1.length) ∧ Aside0 ((l0_1.drop x13_1.toNat).foldl netStep x242000_1 = r) ∧ Aside0 (x242000_1.length = a0_0.toNat) ∧ Aside0 (Kd.R (Kd.int .i64) 3 w' w.heap.size (fun _ => True) u242000 x242000_1) ∧ Aside0 (w'.heap[gb236]? = some (.cells #[.int .i64 a0_0, (.slice A0_1 l0_1.length c0_1)] 29 (0, 0))) ∧ Aside0 (w'.heap[gb237]? = some (.cells #[(.slice none 0 0)] 56 (0, 0))) ∧ Aside0 (w'.heap[gb241]? = some (.cells #[u242000] 56 (0, 0))) ∧ Aside0 (Below w.heap.size w w')) (fun v _ => l0_1.length - (intOf v).toNat)
 case atStart => exact ⟨(0), (y238), (.slice Ao10 y238.length co10), rfl, ⟨by omega, by omega⟩, ⟨H'.out⟩, HYL, ⟨by refine rP ?_;exact Kd.R_mono (Kd.R_far (p := ⟨gb241, 0, none⟩) (Kd.R_types HO240.out BK241.out (by decide)) (fun _ hk => hk.2) (.slice Ao10 y238.length co10)) (fun _ hk => trivial)⟩, ⟨by refine kP ?_;refine blk_far ?_ NB236_241.out _;exact kP BK236.out⟩, ⟨by refine kP ?_;refine blk_far ?_ NB237_241.out _;exact kP BK237.out⟩, ⟨by refine kP ?_;refine blk_put (cs := #[.slice none 0 0]) ?_ 0 _ rfl;exact kP BK241.out⟩, ⟨by exact bB⟩⟩
 case round =>
  clear H' HYL Ny238 HO240
  try clear c2
  try clear c2b0
  try clear c2b1
  try clear c3b0
  try clear c3b1
  obtain ⟨x13_1, x242000_1, u242000, rfl, HX, HF, HYL, HO_242000, BK236, BK237, BK241, HB⟩ := hrel
  by_cases hlt : x13_1 < (l0_1.length : Int)
  ·have hlt' : decide (x13_1 < (l0_1.length : Int)) = true := decide_eq_true hlt
   have p0 : 0 ≤ x13_1 := HX.out.1
   obtain ⟨ad, e, hx0, hx1⟩ := at_T78 HR0_1.out x13_1 p0 hlt
   cases e
   replace hx0 := (HB.out.cell (World.block_lt_of_cell? w _ hx0)).trans hx0
   replace hx1 := (HB.out.cell (World.block_lt_of_cell? w _ hx1)).trans hx1
   have HL := Aside0.mk hlt
   have hok := HE.out (rd_T78 l0_1 x13_1) (rd_mem p0 hlt)
   have HF2 : Aside0 ((l0_1.drop (x13_1 + 1).toNat).foldl netStep (netStep x242000_1 (rd_T78 l0_1 x13_1)) = r) := ⟨by rw [← HF.out];exact (foldl_at p0 hlt netStep x242000_1).symm⟩
   have HW1 : Aside0 (wrap64 (x13_1 + 1) = x13_1 + 1) := ⟨by have := HR0_1.out.2.1;unfold wrap64;omega⟩
   obtain ⟨e, he⟩ : ∃ e, e = rd_T78 l0_1 x13_1 := ⟨_, rfl⟩
   rw [← he] at hx0 hx1 hok HF2
   simp only [edgeOk, decide_eq_true_eq] at hok
   have hN := HN.out
   have hYL := HYL.out
   have i0 : 0 ≤ e.f0 := hok.1
   have i1 : e.f0 < (x242000_1.length : Int) := by omega
   have j0 : 0 ≤ e.f1 := by omega
   have j1 : e.f1 < (x242000_1.length : Int) := by omega
   have HOK := aM (show 0 ≤ e.f0 ∧ e.f0 < 8 ∧ 0 ≤ e.f1 ∧ e.f1 < 8 by omega)
   obtain ⟨f0, hf0⟩ : ∃ z, z = e.f0 := ⟨_, rfl⟩
   obtain ⟨f1, hf1⟩ : ∃ z, z = e.f1 := ⟨_, rfl⟩
   have HST : Aside0 (netStep x242000_1 e = ((x242000_1.set f0.toNat (Go.bits .or .i64 (rd x242000_1 f0) (shl .i64 1 f1))).set f1.toNat (Go.bits .or .i64 (rd (x242000_1.set f0.toNat (Go.bits .or .i64 (rd x242000_1 f0) (shl .i64 1 f1))) f1) (shl .i64 1 f0)))) := ⟨by rw [hf0, hf1];rfl⟩
   rw [← hf0] at hx0 i0 i1 HOK
   rw [← hf1] at hx1 j0 j1 HOK
   clear he hok hf0 hf1
   obtain ⟨go, co, eo, gb, gl, cl, HG⟩ := Kd.R_form HO_242000.out (by omega)
   cases eo
   have gne : go ≠ gb241 := fun hE => by
    have h1 := HG;rw [hE, BK241.out] at h1;simp at h1
   have gne' : gb241 ≠ go := fun hE => gne hE.symm
   have hcz3 := bC0 BK241.out
   have hb241 : gb241 < wr.heap.size := blk_lt BK241.out
   have GB := Aside0.mk gb
   have GL := Aside0.mk gl
   clear hN hYL hlt HG gb gl
   replace p0 := eq_true p0
   have hq0 := eq_true HL.out
   go_wp2
   generalize hw1 : (World.alloc wr _) = w1
   have BN : Aside0 (w1.heap[wr.heap.size]? = some (.cells #[.int .i64 f0, .int .i64 f1] 78 (0, 0))) := ⟨by rw [← hw1];exact blk_new wr _⟩
   have HB1 : Aside0 (Below w.heap.size w w1) := ⟨by rw [← hw1];exact below_alloc HB.out _⟩
   have BK1 : Aside0 (w1.heap[gb236]? = some (.cells #[.int .i64 a0_0, (.slice (some ad) l0_1.length c0_1)] 29 (0, 0))) := ⟨by rw [← hw1];exact blk_alloc BK236.out _⟩
   have BK2 : Aside0 (w1.heap[gb237]? = some (.cells #[(.slice none 0 0)] 56 (0, 0))) := ⟨by rw [← hw1];exact blk_alloc BK237.out _⟩
   have BK3 : Aside0 (w1.heap[gb241]? = some (.cells #[.slice (some ⟨go, 0, none⟩) x242000_1.length co] 56 (0, 0))) := ⟨by rw [← hw1];exact blk_alloc BK241.out _⟩
   have HO1 : Aside0 (Kd.R (Kd.int .i64) 3 w1 w.heap.size (fun _ => True) (.slice (some ⟨go, 0, none⟩) x242000_1.length co) x242000_1) := ⟨by rw [← hw1];exact Kd.R_alloc HO_242000.out _⟩
   have hbn : wr.heap.size ≠ go := by have := GL.out;omega
   have hbn' : go ≠ wr.heap.size := fun h => hbn h.symm
   have hbn3 : wr.heap.size ≠ gb241 := by omega
   generalize wr.heap.size = gn at BN hbn hbn' hbn3 ⊢
   clear hw1 hcz3 hx0 hx1 HO_242000 BK236 BK237 BK241 HB hb241
   have hb3 : gb241 < w1.heap.size := blk_lt BK3.out
   have c30 : w1.cell? ⟨gb241, 0, none⟩ = some (.slice (some ⟨go, 0, none⟩) x242000_1.length co) := (blk_cell BK3.out 0).trans rfl
   have cn0 : w1.cell? ⟨gn, 0, none⟩ = some (.int .i64 f0) := (blk_cell BN.out 0).trans rfl
   have cn1 : w1.cell? ⟨gn, 1, none⟩ = some (.int .i64 f1) := (blk_cell BN.out 1).trans rfl
   obtain ⟨cx0, cf0⟩ := Kd.R_celln 0 HO1.out f0 i0 i1
   have HP0 := Kd.R_putg HO1.out f0 (Go.bits .or .i64 (rd x242000_1 f0) (shl .i64 1 f1))
   refine still_tail_drew 11 (by kernel_rfl) (by kernel_rfl) ?_
   simp only [List.take_succ_cons, List.take_zero, List.drop_succ_cons, List.drop_zero]
   replace i0 := eq_true i0
   replace i1 := eq_true i1
   replace j0 := eq_true j0
   replace j1 := eq_true j1
   repeat still_step
   refine wpStill_nil ?_
   have hx1 := eq_true HL.out
   generalize hV0 : Go.bits .or .i64 (rdOf 0 x242000_1 f0) (IntKind.i64.wrap (2 ^ min f1.toNat 64)) = V0
   have HV0 := Aside0.mk hV0
   have HP := aM (Kd.R_putg HO1.out f0 V0).1
   clear hV0 HP0
   go_wp2
   generalize hw3 : (World.setCell _ _ _) = w3
   obtain ⟨ys, hys⟩ : ∃ ys, ys = x242000_1.set f0.toNat V0 := ⟨_, rfl⟩
   have HYS := Aside0.mk hys
   have HO3 : Aside0 (Kd.R (Kd.int .i64) 3 w3 w.heap.size (fun _ => True) (.slice (some ⟨go, 0, none⟩) ys.length co) ys) := ⟨by rw [← hw3, hys];have := HP.out;rw [List.length_set];exact this⟩
   have hyl : ys.length = x242000_1.length := by rw [hys];simp
   have HYL3 := Aside0.mk hyl
   have B3N : Aside0 (w3.heap[gn]? = some (.cells #[.int .i64 f0, .int .i64 f1] 78 (0, 0))) := ⟨by rw [← hw3];exact blk_far BN.out hbn _⟩
   have g236 : gb236 ≠ go := fun hE => by
    have h1 := HO1.out;have h2 := Kd.R_form h1 (by have := of_eq_true i1;have := of_eq_true i0;omega)
    obtain ⟨g', c', e', _, _, cl', hh'⟩ := h2;cases e';rw [← hE, BK1.out] at hh';simp at hh'
   have g237 : gb237 ≠ go := fun hE => by
    have h1 := HO1.out;have h2 := Kd.R_form h1 (by have := of_eq_true i1;have := of_eq_true i0;omega)
    obtain ⟨g', c', e', _, _, cl', hh'⟩ := h2;cases e';rw [← hE, BK2.out] at hh';simp at hh'
   have B31 : Aside0 (w3.heap[gb236]? = some (.cells #[.int .i64 a0_0, (.slice (some ad) l0_1.length c0_1)] 29 (0, 0))) := ⟨by rw [← hw3];exact blk_far BK1.out g236 _⟩
   have B32 : Aside0 (w3.heap[gb237]? = some (.cells #[(.slice none 0 0)] 56 (0, 0))) := ⟨by rw [← hw3];exact blk_far BK2.out g237 _⟩
   have B33 : Aside0 (w3.heap[gb241]? = some (.cells #[.slice (some ⟨go, 0, none⟩) ys.length co] 56 (0, 0))) := ⟨by rw [← hw3, hyl];exact blk_far BK3.out gne' _⟩
   have HB3 : Aside0 (Below w.heap.size w w3) := ⟨by rw [← hw3];exact below_set HB1.out GB.out⟩
   clear hw3 HP HO1 BN BK1 BK2 BK3 HB1 c30 cn0 cn1 cx0 cf0 hb3
   generalize hw4 : World.drew w3 = w4
   replace B3N : Aside0 (w4.heap[gn]? = some (.cells #[.int .i64 f0, .int .i64 f1] 78 (0, 0))) := ⟨by rw [← hw4];exact B3N.out⟩
   replace B31 : Aside0 (w4.heap[gb236]? = some (.cells #[.int .i64 a0_0, (.slice (some ad) l0_1.length c0_1)] 29 (0, 0))) := ⟨by rw [← hw4];exact B31.out⟩
   replace B32 : Aside0 (w4.heap[gb237]? = some (.cells #[(.slice none 0 0)] 56 (0, 0))) := ⟨by rw [← hw4];exact B32.out⟩
   replace B33 : Aside0 (w4.heap[gb241]? = some (.cells #[.slice (some ⟨go, 0, none⟩) ys.length co] 56 (0, 0))) := ⟨by rw [← hw4];exact B33.out⟩
   replace HB3 : Aside0 (Below w.heap.size w w4) := ⟨by rw [← hw4];exact below_drew HB3.out⟩
   replace HO3 : Aside0 (Kd.R (Kd.int .i64) 3 w4 w.heap.size (fun _ => True) (.slice (some ⟨go, 0, none⟩) ys.length co) ys) := ⟨by rw [← hw4];exact Kd.R_drew HO3.out⟩
   clear hw4 hys
   rw [← hyl] at i1 j1
   have hb3 : gb241 < w4.heap.size := blk_lt B33.out
   have c30 : w4.cell? ⟨gb241, 0, none⟩ = some (.slice (some ⟨go, 0, none⟩) ys.length co) := (blk_cell B33.out 0).trans rfl
   have cn0 : w4.cell? ⟨gn, 0, none⟩ = some (.int .i64 f0) := (blk_cell B3N.out 0).trans rfl
   have cn1 : w4.cell? ⟨gn, 1, none⟩ = some (.int .i64 f1) := (blk_cell B3N.out 1).trans rfl
   obtain ⟨cx0, cf0⟩ := Kd.R_celln 0 HO3.out f1 (of_eq_true j0) (of_eq_true j1)
   clear hyl
   refine still_tail_drew 11 (by kernel_rfl) (by kernel_rfl) ?_
   simp only [List.take_succ_cons, List.take_zero, List.drop_succ_cons, List.drop_zero]
   repeat still_step
   refine wpStill_nil ?_
   generalize hV1 : Go.bits .or .i64 (rdOf 0 ys f1) (IntKind.i64.wrap (2 ^ min f0.toNat 64)) = V1
   have HV1 := Aside0.mk hV1
   have HP := aM (Kd.R_putg HO3.out f1 V1).1
   clear hV1
   go_wp2
   go_roundw
   case rel =>
    refine ⟨x13_1 + 1, ys.set f1.toNat V1, _, by rw [HW1.out], ⟨by have := HX.out;have := HL.out;omega⟩, ⟨?_⟩, ⟨by rw [List.length_set, HYL3.out];exact HYL.out⟩, ⟨Kd.R_drew HP.out⟩, ⟨blk_drew (blk_far B31.out g236 _)⟩, ⟨blk_drew (blk_far B32.out g237 _)⟩, ⟨blk_drew (blk_far B33.out gne' _)⟩, ⟨below_drew (below_set HB3.out GB.out)⟩⟩
    rw [← HF2.out, HST.out, ← HV1.out, HYS.out, ← HV0.out]
    simp only [shl, Int.one_mul]
    rfl
   case measure => have := HL.out;have := HX.out;rw [HW1.out];simp [intOf];omega
  ·have hlt' : decide (x13_1 < (l0_1.length : Int)) = false := decide_eq_false hlt
   obtain rfl : x242000_1 = r := by have := HF.out;rw [List.drop_eq_nil_of_le (by omega)] at this;exact this
   clear hlt
   have hnb40 := NB241_236.out
   have hnc40 := NB236_241.out
   have hnb41 := NB241_237.out
   have hnc41 := NB237_241.out
   have hcz42_0 := bC0 BK241.out
   have hfz42_0 := blk_frozen BK241.out 0
   obtain ⟨Ao43, co43, eo43⟩ := Kd.R_slice HO_242000.out
   subst eo43
   have hnb44 := NB237_236.out
   have hnc44 := NB236_237.out
   have hcz45_0 := bC0 BK237.out
   have hfz45_0 := blk_frozen BK237.out 0
   go_wp2
   refine bodyPost_ret (results_cell_row rfl _ _ gb237 56 #[.slice Ao43 x242000_1.length co43] (0, 0) _ rfl (by refine kP ?_;refine blk_put (cs := #[.slice none 0 0]) ?_ 0 _ rfl;exact kP BK237.out) Tryd.underlying56 rfl (by kernel_rfl)) rfl ?_
   exact ⟨_, eW, by refine rP ?_;exact Kd.R_mono (Kd.R_far (p := ⟨gb237, 0, none⟩) (Kd.R_types HO_242000.out BK237.out (by decide)) (fun _ hk => hk.2) (.slice Ao43 x242000_1.length co43)) (fun _ hk => trivial), by exact bB⟩

/-! ### impl_net_size: function 60 -/
def impl_net_size.f (l0_0 : List Int) : Option (Int) := some (l0_0.length : Int)
theorem impl_net_size.calls (A0_0 : Option Addr) (c0_0 : Nat) (l0_0 : List Int) (r : Int) (w : World) (hr0_0 : Kd.C (Kd.int .i64) w A0_0 l0_0.length l0_0) (hc0_0 : l0_0.length ≤ c0_0) (h : impl_net_size.f l0_0 = some r) :
  Calls Tryd.prog 60 #[.agg #[.slice A0_0 l0_0.length c0_0]] w fun e w' => e = .returned (.int .i64 r) ∧ Below w.heap.size w w' := by
 have hu56 := Tryd.underlying56
 have HR0_0 := Aside0.mk hr0_0
 have HC0_0 := Aside0.mk hc0_0
 clear hr0_0 hc0_0
 have HB := aM (Below.refl w.heap.size w)
 have H : (some (l0_0.length : Int)) = some r := h
 clear h
 obtain rfl := Option.some.inj H
 go_enter Tryd.func60, Tryd.ntmps60
 go_wp2_with (first | ((with_reducible refine gate_dst (N := 1) rfl ?_);refine box_event ?hg (N := 1) ?hd (cs := #[.slice A0_0 l0_0.length c0_0]) (t := 56) ?hr ?_;(case hd => rfl);(case hg => rfl);(case hr => exact gS);intro gb455 hg w2 hbox hb;have n0_ := aM (below_step (by exact bB) hb);have n1_ := aM (hbox);have n2_ := aM (sW hg : w.heap.size ≤ gb455);have n3_ := aM (sW hg : w.heap.size ≤ gb455);clear HB;have HB := n0_;have BK455 := n1_;have GW455 := n2_;have GE455 := n3_;clear n0_ n1_ n2_ n3_;clear hb hbox hg;have hcz3_0 := bC0 BK455.out;have hfz3_0 := blk_frozen BK455.out 0))
 go_ret
 exact ⟨eW, by exact bB⟩


end Go.Proofs.YtgahlimikndecaaDoor.QWorstAttack
