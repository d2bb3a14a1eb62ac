import Derived.Test.YtmokkhfmbenleaaQSpreading0
import Derived.Test.YtmokkhfmbenleaaQSpreading7
import Derived.Test.YtmokkhfmbenleaaQSpreading8
namespace Go.Proofs.Ytmokkhfmbenleaa.QSpreading
open Go.RowKit Go.Proofs.YtmokkhfmbenleaaW.PrintWords Go.Proofs.YtmokkhfmbenleaaW.PrintLast Go.Proofs.YtmokkhfmbenleaaW.PrintMore
attribute [local go_sem] max2_int min2_int max_two min_two max_three min_three max_four min_four   -- for this text's walks alone
set_option linter.unusedVariables false
set_option linter.unusedSimpArgs false
/-! ### spec_IsStopping: function 52 -/
mutual
def spec_IsStopping.j0 : Nat → List Int → Int → Bool → Int → List (S119) → Option (Bool × Bool)
 | 0, _, _, _, _, _ => none
 | k + 1, x1, x2, x22, x701000, x701001 => if x22 = true then (some (false, false)) else (spec_IsStopping.l0 k x1 x2 0 x701000 x701001)
def spec_IsStopping.l0 : Nat → List Int → Int → Int → Int → List (S119) → Option (Bool × Bool)
 | 0, _, _, _, _, _ => none
 | k + 1, x1, x2, x8, x701000, x701001 => if x8 < (x1.length : Int) then (if 0 ≤ x8 then ((spec_l2Neighbors.f k x701000 x701001 (rd x1 x8)).bind fun t705 => ((spec_l8Inside.f k x701000 x701001 x1 (rd x1 x8)).bind fun t709 => (if (wrap64 ((t705.length : Int) - t709)) ≥ x2 then (some (false, true)) else (spec_IsStopping.l0 k x1 x2 (wrap64 (x8 + 1)) x701000 x701001)))) else (none)) else (some (decide ((x1.length : Int) > 0), true))
end
def spec_IsStopping.f (k : Nat) (a0_0 : Int) (l0_1 : List (S119)) (l1 : List Int) (a2 : Int) : Option (Bool × Bool) := (spec_l2Good.f a0_0 l0_1).bind fun t701 => (if t701 = true then ((spec_l2Set.f k a0_0 l0_1 l1).bind fun t702 => (if t702 = true then ((spec_l8Number.f a2).bind fun t703 => (spec_IsStopping.j0 k l1 a2 (!t703) a0_0 l0_1)) else (spec_IsStopping.j0 k l1 a2 true a0_0 l0_1))) else (spec_IsStopping.j0 k l1 a2 true a0_0 l0_1))
theorem spec_IsStopping.mono_l : ∀ k, (∀ y0 y1 y2 y3 y4, LeO (spec_IsStopping.j0 k y0 y1 y2 y3 y4) (spec_IsStopping.j0 (k + 1) y0 y1 y2 y3 y4)) ∧ (∀ y0 y1 y2 y3 y4, LeO (spec_IsStopping.l0 k y0 y1 y2 y3 y4) (spec_IsStopping.l0 (k + 1) y0 y1 y2 y3 y4))
 | 0 => ⟨fun _ _ _ _ _ r h => by simp [spec_IsStopping.j0] at h, fun _ _ _ _ _ r h => by simp [spec_IsStopping.l0] at h⟩
 | k + 1 => by
  obtain ⟨ih0, ih1⟩ := spec_IsStopping.mono_l k
  refine ⟨?_, ?_⟩
  ·intro y0 y1 y2 y3 y4
   unfold spec_IsStopping.j0
   repeat' first
   | (with_reducible exact ih0 _ _ _ _ _)
   | (with_reducible exact ih1 _ _ _ _ _)
   | (with_reducible exact spec_l2Neighbors.mono _ _ _ _)
   | (with_reducible exact spec_l2Set.mono _ _ _ _)
   | (with_reducible exact spec_l8Inside.mono _ _ _ _ _)
   | (with_reducible exact LeO.refl _)
   | (with_reducible exact LeO.none _)
   | (with_reducible refine LeO.ite ?_ ?_)
   | (with_reducible refine LeO.bind ?_ (fun _ => ?_))
   | exact LeO.none _
   | refine LeO.ite ?_ ?_
   | refine LeO.bind ?_ (fun _ => ?_)
  ·intro y0 y1 y2 y3 y4
   unfold spec_IsStopping.l0
   repeat' first
   | (with_reducible exact ih0 _ _ _ _ _)
   | (with_reducible exact ih1 _ _ _ _ _)
   | (with_reducible exact spec_l2Neighbors.mono _ _ _ _)
   | (with_reducible exact spec_l2Set.mono _ _ _ _)
   | (with_reducible exact spec_l8Inside.mono _ _ _ _ _)
   | (with_reducible exact LeO.refl _)
   | (with_reducible exact LeO.none _)
   | (with_reducible refine LeO.ite ?_ ?_)
   | (with_reducible refine LeO.bind ?_ (fun _ => ?_))
   | exact LeO.none _
   | refine LeO.ite ?_ ?_
   | refine LeO.bind ?_ (fun _ => ?_)
theorem spec_IsStopping.mono : ∀ a0 a1 a2 a3 k, LeO (spec_IsStopping.f k a0 a1 a2 a3) (spec_IsStopping.f (k + 1) a0 a1 a2 a3) := by
 intro a0 a1 a2 a3 k
 obtain ⟨ih0, ih1⟩ := spec_IsStopping.mono_l k
 unfold spec_IsStopping.f
 repeat' first
   | (with_reducible exact ih0 _ _ _ _ _)
   | (with_reducible exact ih1 _ _ _ _ _)
   | (with_reducible exact spec_l2Neighbors.mono _ _ _ _)
   | (with_reducible exact spec_l2Set.mono _ _ _ _)
   | (with_reducible exact spec_l8Inside.mono _ _ _ _ _)
   | (with_reducible exact LeO.refl _)
   | (with_reducible exact LeO.none _)
   | (with_reducible refine LeO.ite ?_ ?_)
   | (with_reducible refine LeO.bind ?_ (fun _ => ?_))
   | exact LeO.none _
   | refine LeO.ite ?_ ?_
   | refine LeO.bind ?_ (fun _ => ?_)
def spec_IsStopping.T6 : Bool × List (List Nat × List Nat) := (true, [([], []), ([], []), ([], []), ([1, 2], [1, 2]), ([3], [3]), ([0, 4], [0, 4]), ([5], [5]), ([], []), ([], []), ([], []), ([], []), ([9, 10], [9, 10]), ([11], [11]), ([7, 8, 12, 5], [7, 8, 12]), ([6, 13], [6, 13]), ([], []), ([14, 15], [14, 15])])
def spec_IsStopping.B6 : List Nat := [0, 0, 0, 6, 14, 31, 63, 0, 0, 0, 0, 1536, 3584, 8127, 16383, 0, 65535]
theorem spec_IsStopping.tab6 : rtab .any (opsOf Try.f52 6) = spec_IsStopping.T6 := by kernel_rfl
theorem spec_IsStopping.bits6 : waitsOk spec_IsStopping.T6.2 spec_IsStopping.B6 = true := by kernel_rfl
set_option maxHeartbeats 8000000 in
set_option maxRecDepth 100000 in
theorem spec_IsStopping.calls (k : Nat) (a0_0 : Int) (A0_1 : Option Addr) (c0_1 : Nat) (l0_1 : List (S119)) (A1 : Option Addr) (c1 : Nat) (l1 : List Int) (a2 : Int) (r1 : Bool) (r2 : Bool) (w : World) (hr0_1 : Kd.C k119 w A0_1 l0_1.length l0_1) (hc0_1 : l0_1.length ≤ c0_1) (hr1 : Kd.C (Kd.int .i64) w A1 l1.length l1) (hc1 : l1.length ≤ c1) (h : spec_IsStopping.f k a0_0 l0_1 l1 a2 = some (r1, r2)) :
  Calls Try.prog 52 #[.agg #[.int .i64 a0_0, .slice A0_1 l0_1.length c0_1], .slice A1 l1.length c1, .int .i64 a2] w fun e w' => e = .returned (.tuple #[.bool r1, .bool r2]) ∧ Below w.heap.size w w' := by
 have hu31 := Try.underlying31
 have HR0_1 := Aside0.mk hr0_1
 have HC0_1 := Aside0.mk hc0_1
 clear hr0_1 hc0_1
 have HR1 := Aside0.mk hr1
 have HC1 := Aside0.mk hc1
 clear hr1 hc1
 have HB := aM (Below.refl w.heap.size w)
 have H : ((spec_l2Good.f a0_0 l0_1).bind fun t701 => (if t701 = true then ((spec_l2Set.f k a0_0 l0_1 l1).bind fun t702 => (if t702 = true then ((spec_l8Number.f a2).bind fun t703 => (spec_IsStopping.j0 k l1 a2 (!t703) a0_0 l0_1)) else (spec_IsStopping.j0 k l1 a2 true a0_0 l0_1))) else (spec_IsStopping.j0 k l1 a2 true a0_0 l0_1))) = some (r1, r2) := h
 clear h
 have HC4 := Aside0.mk H
 clear H
 go_enter Try.func52, Try.ntmps52
 go_upto_region 1 with (first | ((with_reducible refine gate_dst (N := 3) rfl ?_);refine box_event ?hg (N := 3) ?hd (cs := #[.int .i64 a0_0, .slice A0_1 l0_1.length c0_1]) (t := 31) ?hr ?_;(case hd => rfl);(case hg => rfl);(case hr => first | (go_simp;done) | (go_simp;rfl));intro gb700 hg w5 hbox hb;have n0_ := aM (below_step (by exact bB) hb);have n1_ := aM (hbox);have n2_ := aM (sW hg : w.heap.size ≤ gb700);have n3_ := aM (sW hg : w.heap.size ≤ gb700);clear HB;have HB := n0_;have BK700 := n1_;have GW700 := n2_;have GE700 := n3_;clear n0_ n1_ n2_ n3_;clear hb hbox hg))
 (try simp only [Act.put, List.setIfInBounds_toArray, List.set_cons_zero, List.set_cons_succ])
 go_cut [22] (fun v22 wc => ∃ (kq : Nat) (x22_3 : Bool), v22 = .bool x22_3 ∧ Aside0 (spec_IsStopping.j0 kq l1 a2 x22_3 a0_0 l0_1 = some (r1, r2)) ∧ Aside0 (kq ≤ k) ∧ Aside0 (wc.heap[gb700]? = some (.cells #[.int .i64 a0_0, (.slice A0_1 l0_1.length c0_1)] 31 (0, 0))) ∧ Aside0 (Below w.heap.size w wc))
 case first =>
  have H := HC4.out
  clear HC4
  replace H := Option.bind_eq_some_iff.mp H
  obtain ⟨t701, A60, H⟩ := H
  replace H : (if t701 = true then ((spec_l2Set.f k a0_0 l0_1 l1).bind fun t702 => (if t702 = true then ((spec_l8Number.f a2).bind fun t703 => (spec_IsStopping.j0 k l1 a2 (!t703) a0_0 l0_1)) else (spec_IsStopping.j0 k l1 a2 true a0_0 l0_1))) else (spec_IsStopping.j0 k l1 a2 true a0_0 l0_1)) = some (r1, r2) := H
  have A6 := Aside0.mk A60
  clear A60
  by_cases c7 : t701 = true
  rotate_left
  ·replace c7 := Bool.eq_false_iff.mpr c7
   subst c7
   have H1 : (spec_IsStopping.j0 k l1 a2 true a0_0 l0_1) = some (r1, r2) := by rw [if_neg (show ¬ (false = true) by decide)] at H;exact H
   clear H
   have H := H1
   clear H1
   have H' := Aside0.mk H
   clear H
   have hcz19_0 := bC0 BK700.out
   have hcz19_1 := bC1 BK700.out
   have hfz19_0 := blk_frozen BK700.out 0
   have hfz19_1 := blk_frozen BK700.out 1
   go_wp2_with (first | ((with_reducible refine gate_callee (f := 83) rfl ?_);refine goesL_ (some 10) rfl rfl Try.func83 (by kernel_rfl) rfl #[.agg #[.int .i64 a0_0, .slice A0_1 l0_1.length c0_1]] rfl mM ?_;(with_reducible refine (spec_l2Good.calls a0_0 _ _ l0_1 false _ ?side1 ?side2 A6.out).mono ?_);(case side1 => exact cP (Kd.C_below HR0_1.out HB.out));(case side2 => exact HC0_1.out);rintro e w20 ⟨rfl, hb⟩;refine ⟨_, rfl, ?_⟩;have n0_ := aM (kB hb BK700.out);have n1_ := aM (below_step (by exact bB) hb);clear BK700;clear HB;have BK700 := n0_;have HB := n1_;clear n0_ n1_;(try clear hb);(try clear hb2);(try clear hk);(try clear hi)))
   go_meet
   case rel => exact ⟨_, (true), (by first | rfl | (simp;done) | (simp [*];done)), H', ⟨by first | omega | exact Nat.le_refl _⟩, ⟨by exact kP BK700.out⟩, ⟨by exact bB⟩⟩
  subst c7
  have H1 : ((spec_l2Set.f k a0_0 l0_1 l1).bind fun t702 => (if t702 = true then ((spec_l8Number.f a2).bind fun t703 => (spec_IsStopping.j0 k l1 a2 (!t703) a0_0 l0_1)) else (spec_IsStopping.j0 k l1 a2 true a0_0 l0_1))) = some (r1, r2) := by rw [if_pos rfl] at H;exact H
  clear H
  have H := H1
  clear H1
  replace H := Option.bind_eq_some_iff.mp H
  obtain ⟨t702, A80, H⟩ := H
  replace H : (if t702 = true then ((spec_l8Number.f a2).bind fun t703 => (spec_IsStopping.j0 k l1 a2 (!t703) a0_0 l0_1)) else (spec_IsStopping.j0 k l1 a2 true a0_0 l0_1)) = some (r1, r2) := H
  have A8 := Aside0.mk A80
  clear A80
  by_cases c9 : t702 = true
  rotate_left
  ·replace c9 := Bool.eq_false_iff.mpr c9
   subst c9
   have H1 : (spec_IsStopping.j0 k l1 a2 true a0_0 l0_1) = some (r1, r2) := by rw [if_neg (show ¬ (false = true) by decide)] at H;exact H
   clear H
   have H := H1
   clear H1
   have H' := Aside0.mk H
   clear H
   have hcz15_0 := bC0 BK700.out
   have hcz15_1 := bC1 BK700.out
   have hfz15_0 := blk_frozen BK700.out 0
   have hfz15_1 := blk_frozen BK700.out 1
   go_wp2_with (first | ((with_reducible refine gate_callee (f := 83) rfl ?_);refine goesL_ (some 10) rfl rfl Try.func83 (by kernel_rfl) rfl #[.agg #[.int .i64 a0_0, .slice A0_1 l0_1.length c0_1]] rfl mM ?_;(with_reducible refine (spec_l2Good.calls a0_0 _ _ l0_1 true _ ?side1 ?side2 A6.out).mono ?_);(case side1 => exact cP (Kd.C_below HR0_1.out HB.out));(case side2 => exact HC0_1.out);rintro e w16 ⟨rfl, hb⟩;refine ⟨_, rfl, ?_⟩;have n0_ := aM (kB hb BK700.out);have n1_ := aM (below_step (by exact bB) hb);clear BK700;clear HB;have BK700 := n0_;have HB := n1_;clear n0_ n1_;(try clear hb);(try clear hb2);(try clear hk);(try clear hi);have hcz17_0 := bC0 BK700.out;have hcz17_1 := bC1 BK700.out;have hfz17_0 := blk_frozen BK700.out 0;have hfz17_1 := blk_frozen BK700.out 1) | (go_at_call 98;(with_reducible refine (spec_l2Set.calls k a0_0 _ _ l0_1 _ _ l1 false _ ?side1 ?side2 ?side3 ?side4 A8.out).mono ?_);(case side1 => exact cP (Kd.C_below HR0_1.out HB.out));(case side2 => exact HC0_1.out);(case side3 => exact cP (Kd.C_below HR1.out HB.out));(case side4 => exact HC1.out);rintro e w18 ⟨rfl, hb⟩;have n0_ := aM (kB hb BK700.out);have n1_ := aM (below_step (by exact bB) hb);clear BK700;clear HB;have BK700 := n0_;have HB := n1_;clear n0_ n1_;(try clear hb);(try clear hb2);(try clear hk);(try clear hi)))
   go_meet
   case rel => exact ⟨_, (true), (by first | rfl | (simp;done) | (simp [*];done)), H', ⟨by first | omega | exact Nat.le_refl _⟩, ⟨by exact kP BK700.out⟩, ⟨by exact bB⟩⟩
  subst c9
  have H1 : ((spec_l8Number.f a2).bind fun t703 => (spec_IsStopping.j0 k l1 a2 (!t703) a0_0 l0_1)) = some (r1, r2) := by rw [if_pos rfl] at H;exact H
  clear H
  have H := H1
  clear H1
  replace H := Option.bind_eq_some_iff.mp H
  obtain ⟨t703, A100, H⟩ := H
  replace H : (spec_IsStopping.j0 k l1 a2 (!t703) a0_0 l0_1) = some (r1, r2) := H
  have A10 := Aside0.mk A100
  clear A100
  have H' := Aside0.mk H
  clear H
  have hcz11_0 := bC0 BK700.out
  have hcz11_1 := bC1 BK700.out
  have hfz11_0 := blk_frozen BK700.out 0
  have hfz11_1 := blk_frozen BK700.out 1
  go_wp2_with (first | ((with_reducible refine gate_callee (f := 83) rfl ?_);refine goesL_ (some 10) rfl rfl Try.func83 (by kernel_rfl) rfl #[.agg #[.int .i64 a0_0, .slice A0_1 l0_1.length c0_1]] rfl mM ?_;(with_reducible refine (spec_l2Good.calls a0_0 _ _ l0_1 true _ ?side1 ?side2 A6.out).mono ?_);(case side1 => exact cP (Kd.C_below HR0_1.out HB.out));(case side2 => exact HC0_1.out);rintro e w12 ⟨rfl, hb⟩;refine ⟨_, rfl, ?_⟩;have n0_ := aM (kB hb BK700.out);have n1_ := aM (below_step (by exact bB) hb);clear BK700;clear HB;have BK700 := n0_;have HB := n1_;clear n0_ n1_;(try clear hb);(try clear hb2);(try clear hk);(try clear hi);have hcz13_0 := bC0 BK700.out;have hcz13_1 := bC1 BK700.out;have hfz13_0 := blk_frozen BK700.out 0;have hfz13_1 := blk_frozen BK700.out 1) | (go_at_call 98;(with_reducible refine (spec_l2Set.calls k a0_0 _ _ l0_1 _ _ l1 true _ ?side1 ?side2 ?side3 ?side4 A8.out).mono ?_);(case side1 => exact cP (Kd.C_below HR0_1.out HB.out));(case side2 => exact HC0_1.out);(case side3 => exact cP (Kd.C_below HR1.out HB.out));(case side4 => exact HC1.out);rintro e w14 ⟨rfl, hb⟩;have n0_ := aM (kB hb BK700.out);have n1_ := aM (below_step (by exact bB) hb);clear BK700;clear HB;have BK700 := n0_;have HB := n1_;clear n0_ n1_;(try clear hb);(try clear hb2);(try clear hk);(try clear hi)) | (go_at_call 99;(with_reducible refine (spec_l8Number.calls a2 t703 _ A10.out).mono ?_);rintro e w' ⟨rfl, ⟨nd, rfl⟩⟩))
  go_meet
  case rel => exact ⟨_, (!t703), (by first | rfl | (simp;done) | (simp [*];done)), H', ⟨by first | omega | exact Nat.le_refl _⟩, ⟨by exact kP BK700.out⟩, ⟨by exact bB⟩⟩
 case rest =>
  clear HC4
  try clear c1
  try clear p2
  try clear c5
  try clear c7
  try clear c8
  try clear c9
  try clear hcz11_0
  try clear hcz11_1
  try clear hcz13_0
  try clear hcz13_1
  try clear hcz15_0
  try clear hcz15_1
  try clear hcz17_0
  try clear hcz17_1
  try clear hcz19_0
  try clear hcz19_1
  try clear hfz11_0
  try clear hfz11_1
  try clear hfz13_0
  try clear hfz13_1
  try clear hfz15_0
  try clear hfz15_1
  try clear hfz17_0
  try clear hfz17_1
  try clear hfz19_0
  try clear hfz19_1
  obtain ⟨kq, x22_3, rfl, HA, HJ3, BK700, HB⟩ := hcut
  cases kq with
  | zero => exact absurd HA.out (by simp [spec_IsStopping.j0])
  | succ kj3 =>
   have H := HA.out
   clear HA
   simp only [spec_IsStopping.j0] at H
   by_cases c21 : x22_3 = true
   ·subst c21
    have H1 : (some (false, false)) = some (r1, r2) := by rw [if_pos rfl] at H;exact H
    clear H
    have H := H1
    clear H1
    simp only [Option.some.injEq, Prod.mk.injEq] at H
    obtain ⟨rfl, rfl⟩ := H
    go_wp2
    go_ret2
    exact ⟨by first | rfl | (simp [errW_none, errW_some] <;> rfl) | (simp [*, errW_none, errW_some] <;> rfl), by exact bB⟩
   replace c21 := Bool.eq_false_iff.mpr c21
   subst c21
   have H1 : (spec_IsStopping.l0 kj3 l1 a2 0 a0_0 l0_1) = some (r1, r2) := by rw [if_neg (show ¬ (false = true) by decide)] at H;exact H
   clear H
   have H := H1
   clear H1
   have H' := Aside0.mk H
   clear H
   go_wp2
   go_loopg [8] kj3 (fun kq v8 w' => ∃ (x8_2 : Int), v8 = .int .i64 x8_2 ∧ Aside0 (spec_IsStopping.l0 kq l1 a2 x8_2 a0_0 l0_1 = some (r1, r2)) ∧ Aside0 (kq ≤ kj3) ∧ Aside0 (w'.heap[gb700]? = some (.cells #[.int .i64 a0_0, (.slice A0_1 l0_1.length c0_1)] 31 (0, 0))) ∧ Aside0 (Below w.heap.size w w'))
   case atStart => exact ⟨(0), (by first | rfl | (simp;done) | (simp [*];done)), H', ⟨Nat.le_refl _⟩, ⟨by exact kP BK700.out⟩, ⟨by exact bB⟩⟩
   case round =>
    clear H'
    try clear c1
    try clear c2
    try clear p2
    try clear c5
    try clear c7
    try clear c8
    try clear c9
    try clear c21
    try clear hcz11_0
    try clear hcz11_1
    try clear hcz13_0
    try clear hcz13_1
    try clear hcz15_0
    try clear hcz15_1
    try clear hcz17_0
    try clear hcz17_1
    try clear hcz19_0
    try clear hcz19_1
    try clear hfz11_0
    try clear hfz11_1
    try clear hfz13_0
    try clear hfz13_1
    try clear hfz15_0
    try clear hfz15_1
    try clear hfz17_0
    try clear hfz17_1
    try clear hfz19_0
    try clear hfz19_1
    try clear p2
    obtain ⟨x8_2, rfl, HA, HK2, BK700, HB⟩ := hrel
    cases gk with
    | zero => exact absurd HA.out (by simp [spec_IsStopping.l0])
    | succ k2 =>
     have H := HA.out
     clear HA
     simp only [spec_IsStopping.l0] at H
     by_cases c22 : x8_2 < (l1.length : Int)
     rotate_left
     ·rw [if_neg c22] at H
      have c22b0 : decide (x8_2 < (l1.length : Int)) = false := decide_eq_false c22
      clear c22
      simp only [Option.some.injEq, Prod.mk.injEq] at H
      obtain ⟨rfl, rfl⟩ := H
      go_wp2
      go_ret2
      exact ⟨by first | rfl | (simp [errW_none, errW_some] <;> rfl) | (simp [*, errW_none, errW_some] <;> rfl), by exact bB⟩
     rw [if_pos c22] at H
     have c22b0 : decide (x8_2 < (l1.length : Int)) = true := decide_eq_true c22
     clear c22
     by_cases c23 : 0 ≤ x8_2
     rotate_left
     ·rw [if_neg c23] at H
      exact absurd H (by simp)
     rw [if_pos c23] at H
     have c23b0 : decide (0 ≤ x8_2) = true := decide_eq_true c23
     clear c23
     replace H := Option.bind_eq_some_iff.mp H
     obtain ⟨t705, A240, H⟩ := H
     replace H : ((spec_l8Inside.f k2 a0_0 l0_1 l1 (rd l1 x8_2)).bind fun t709 => (if (wrap64 ((t705.length : Int) - t709)) ≥ a2 then (some (false, true)) else (spec_IsStopping.l0 k2 l1 a2 (wrap64 (x8_2 + 1)) a0_0 l0_1))) = some (r1, r2) := H
     have A24 := Aside0.mk A240
     clear A240
     replace H := Option.bind_eq_some_iff.mp H
     obtain ⟨t709, A250, H⟩ := H
     replace H : (if (wrap64 ((t705.length : Int) - t709)) ≥ a2 then (some (false, true)) else (spec_IsStopping.l0 k2 l1 a2 (wrap64 (x8_2 + 1)) a0_0 l0_1)) = some (r1, r2) := H
     have A25 := Aside0.mk A250
     clear A250
     by_cases c26 : (wrap64 ((t705.length : Int) - t709)) ≥ a2
     ·rw [if_pos c26] at H
      have c26b0 : decide (a2 ≤ (wrap64 ((t705.length : Int) - t709))) = true := decide_eq_true c26
      clear c26
      simp only [Option.some.injEq, Prod.mk.injEq] at H
      obtain ⟨rfl, rfl⟩ := H
      try go_wp2
      have n0_ := aM (blk_drew BK700.out)
      have n1_ := aM (below_drew1 HB.out)
      clear BK700
      clear HB
      have BK700 := n0_
      have HB := n1_
      clear n0_ n1_
      have p704 : 0 ≤ (x8_2 : Int) := oA
      have q704 : x8_2 < (l1.length : Int) := oA
      obtain ⟨ad704, e704, hx704_0⟩ := Kd.at_int HR1.out x8_2 p704 q704
      have hw704_0 := hx704_0
      cases e704
      replace hx704_0 := (HB.out.cell (World.block_lt_of_cell? w _ hx704_0)).trans hx704_0
      replace p704 := eq_true p704
      replace q704 := eq_true q704
      have p708 : 0 ≤ (x8_2 : Int) := oA
      have q708 : x8_2 < (l1.length : Int) := oA
      obtain ⟨ad708, e708, hx708_0⟩ := Kd.at_int HR1.out x8_2 p708 q708
      have hw708_0 := hx708_0
      obtain rfl : ad704 = ad708 := (by injection e708)
      replace hx708_0 := (HB.out.cell (World.block_lt_of_cell? w _ hx708_0)).trans hx708_0
      replace p708 := eq_true p708
      replace q708 := eq_true q708
      refine start_ (n := 17) (S := fun w' => w'.cell? ⟨gb700, 0, none⟩ = some (.int .i64 a0_0) ∧ w'.cell? ⟨gb700, 1, none⟩ = some (.slice A0_1 l0_1.length c0_1) ∧ w'.cell? (ad704.add (x8_2).toNat) = some (.int .i64 (rd l1 x8_2)) ∧ w'.cell? (ad704.add (x8_2).toNat) = some (.int .i64 (rd l1 x8_2))) (ds := []) #[false,false,false,false,false,false,false,false,false,false,false,false,false,false,false,false,false] (by kernel_rfl) rfl rfl ⟨(blk_cell BK700.out 0).trans rfl, (blk_cell BK700.out 1).trans rfl, ((HB.out.cell (World.block_lt_of_cell? w _ hw704_0)).trans hw704_0), ((HB.out.cell (World.block_lt_of_cell? w _ hw708_0)).trans hw708_0)⟩ (fun hHeld => ?_);refine with_tabW spec_IsStopping.tab6 spec_IsStopping.bits6 (fun HT_ HW_ => ?_)
      generalize wr.drew = w27 at BK700 HB hx704_0 hx708_0 hHeld ⊢
      refine pure_ (i := 1) (N := some 30) (v := ?_) (a' := ?_) #[false,true,false,false,false,false,false,false,false,false,false,false,false,false,false,false,false] rfl rfl (any_of HT_.out (by kernel_rfl)) (fun _ _ _ h => h) (Or.inl ⟨by rfl, ?_⟩) ?_ ?_
      rotate_left
      ·intro w'
       go_simp
       with_reducible rfl
      rotate_left
      ·exact aP
      refine pure_ (i := 2) (N := some 31) (v := ?_) (a' := ?_) #[false,true,true,false,false,false,false,false,false,false,false,false,false,false,false,false,false] rfl rfl (any_of HT_.out (by kernel_rfl)) (fun _ _ _ h => h) (Or.inl ⟨by rfl, ?_⟩) ?_ ?_
      rotate_left
      ·intro w'
       go_simp
       with_reducible rfl
      rotate_left
      ·exact aP
      refine pure_ (i := 3) (N := some 32) (v := ?_) (a' := ?_) #[false,true,true,true,false,false,false,false,false,false,false,false,false,false,false,false,false] rfl rfl (any_of HT_.out (by kernel_rfl)) (fun _ _ _ h => h) (Or.inl ⟨by rfl, ?_⟩) ?_ ?_
      rotate_left
      ·intro w'
       go_simp
       with_reducible rfl
      rotate_left
      ·exact aP
      refine pure_ (i := 8) (N := some 37) (v := ?_) (a' := ?_) #[false,true,true,true,false,false,false,false,true,false,false,false,false,false,false,false,false] rfl rfl (any_of HT_.out (by kernel_rfl)) (fun _ _ _ h => h) (Or.inl ⟨by rfl, ?_⟩) ?_ ?_
      rotate_left
      ·intro w'
       go_simp
       with_reducible rfl
      rotate_left
      ·exact aP
      refine pure_ (i := 9) (N := some 38) (v := ?_) (a' := ?_) #[false,true,true,true,false,false,false,false,true,true,false,false,false,false,false,false,false] rfl rfl (any_of HT_.out (by kernel_rfl)) (fun _ _ _ h => h) (Or.inl ⟨by rfl, ?_⟩) ?_ ?_
      rotate_left
      ·intro w'
       go_simp
       with_reducible rfl
      rotate_left
      ·exact aP
      refine pure_ (i := 10) (N := some 39) (v := ?_) (a' := ?_) #[false,true,true,true,false,false,false,false,true,true,true,false,false,false,false,false,false] rfl rfl (any_of HT_.out (by kernel_rfl)) (fun _ _ _ h => h) (Or.inl ⟨by rfl, ?_⟩) ?_ ?_
      rotate_left
      ·intro w'
       go_simp
       with_reducible rfl
      rotate_left
      ·exact aP
      refine pure_ (i := 11) (N := some 40) (v := ?_) (a' := ?_) #[false,true,true,true,false,false,false,false,true,true,true,true,false,false,false,false,false] rfl rfl (any_of HT_.out (by kernel_rfl)) (fun _ _ _ h => h) (Or.inl ⟨by rfl, ?_⟩) ?_ ?_
      rotate_left
      ·intro w'
       go_simp
       with_reducible rfl
      rotate_left
      ·exact aP
      refine pure_ (i := 15) (N := some 44) (v := ?_) (a' := ?_) #[false,true,true,true,false,false,false,false,true,true,true,true,false,false,false,true,false] rfl rfl (any_of HT_.out (by kernel_rfl)) (fun _ _ _ h => h) (Or.inl ⟨by rfl, ?_⟩) ?_ ?_
      rotate_left
      ·intro w'
       go_simp
       with_reducible rfl
      rotate_left
      ·exact aP
      refine take_ (i := 0) (N := some 29) (v := ?_) (a' := ?_) #[true,true,true,true,false,false,false,false,true,true,true,true,false,false,false,true,false] rfl rfl (take_ofW HT_.out HW_.out (by kernel_rfl)) (fun _ _ _ h => h) (Or.inl ⟨by rfl, ?_⟩) hHeld ?_ ?_
      rotate_left
      ·rintro w' ⟨s0, s1, s2, s3⟩
       go_simp
       with_reducible rfl
      rotate_left
      ·exact aP
      refine take_ (i := 4) (N := some 33) (v := ?_) (a' := ?_) #[true,true,true,true,true,false,false,false,true,true,true,true,false,false,false,true,false] rfl rfl (take_ofW HT_.out HW_.out (by kernel_rfl)) (fun _ _ _ h => h) (Or.inl ⟨by rfl, ?_⟩) hHeld ?_ ?_
      rotate_left
      ·rintro w' ⟨s0, s1, s2, s3⟩
       go_simp
       with_reducible rfl
      rotate_left
      ·exact aP
      refine take_ (i := 7) (N := some 36) (v := ?_) (a' := ?_) #[true,true,true,true,true,false,false,true,true,true,true,true,false,false,false,true,false] rfl rfl (take_ofW HT_.out HW_.out (by kernel_rfl)) (fun _ _ _ h => h) (Or.inl ⟨by rfl, ?_⟩) hHeld ?_ ?_
      rotate_left
      ·rintro w' ⟨s0, s1, s2, s3⟩
       go_simp
       with_reducible rfl
      rotate_left
      ·exact aP
      refine take_ (i := 12) (N := some 41) (v := ?_) (a' := ?_) #[true,true,true,true,true,false,false,true,true,true,true,true,true,false,false,true,false] rfl rfl (take_ofW HT_.out HW_.out (by kernel_rfl)) (fun _ _ _ h => h) (Or.inl ⟨by rfl, ?_⟩) hHeld ?_ ?_
      rotate_left
      ·rintro w' ⟨s0, s1, s2, s3⟩
       go_simp
       with_reducible rfl
      rotate_left
      ·exact aP
      refine one_ (i := 5) (N := some 34) #[true,true,true,true,true,true,false,true,true,true,true,true,true,false,false,true,false] rfl rfl (one_of HT_.out (by kernel_rfl)) (by decide) (fun K hK => ?_)
      refine goes_ Try.func104 (by kernel_rfl) rfl #[.agg #[.int .i64 a0_0, .slice A0_1 l0_1.length c0_1], .int .i64 (rd l1 x8_2)] (by rfl) rfl rfl mM ?_
      with_reducible refine (spec_l2Neighbors.calls k2 a0_0 _ _ l0_1 (rd l1 x8_2) t705 _ ?side1 ?side2 A24.out).mono ?_
      (case side1 => exact cP (Kd.C_below HR0_1.out HB.out))
      (case side2 => exact HC0_1.out)
      rintro e w28 ⟨v706, rfl, ho0, hb⟩
      refine ⟨_, rfl, ?_⟩
      have n0_ := aM (Kd.R_lower ho0 (below_size (by exact bB)))
      have n1_ := aM (kB hb BK700.out)
      have n2_ := aM (below_step (by exact bB) hb)
      clear BK700
      clear HB
      have HO707 := n0_
      have BK700 := n1_
      have HB := n2_
      clear n0_ n1_ n2_
      (try clear hb)
      (try clear hb2)
      (try clear hk)
      (try clear hi)
      (try clear ho0)
      obtain ⟨Ao29, co29, eo29⟩ := Kd.R_slice HO707.out
      (first | subst eo29 | (injection eo29 with f1_ f2_ f3_;have f4_ := f1_.symm;have f5_ := f3_.symm;clear f1_ f2_ f3_;subst f4_;subst f5_))
      refine hK.out _ _ ⟨(blk_cell BK700.out 0).trans rfl, (blk_cell BK700.out 1).trans rfl, ((HB.out.cell (World.block_lt_of_cell? w _ hw704_0)).trans hw704_0), ((HB.out.cell (World.block_lt_of_cell? w _ hw708_0)).trans hw708_0)⟩ (fun hHeld => ?_)
      clear hK K
      refine norm_ (a' := ?_) ?_ ?_
      rotate_left
      ·show Act.put _ (some 34) _ = _
       simp only [Act.put, List.setIfInBounds_toArray, List.set_cons_zero, List.set_cons_succ, i64_w, i32_w]
       rfl
      refine pure_ (i := 6) (N := some 35) (v := ?_) (a' := ?_) #[true,true,true,true,true,true,true,true,true,true,true,true,true,false,false,true,false] rfl rfl (any_of HT_.out (by kernel_rfl)) (fun _ _ _ h => h) (Or.inl ⟨by rfl, ?_⟩) ?_ ?_
      rotate_left
      ·intro w'
       go_simp
       with_reducible rfl
      rotate_left
      ·exact aP
      refine one_ (i := 13) (N := some 42) #[true,true,true,true,true,true,true,true,true,true,true,true,true,true,false,true,false] rfl rfl (one_of HT_.out (by kernel_rfl)) (by decide) (fun K hK => ?_)
      refine goes_ Try.func105 (by kernel_rfl) rfl #[.agg #[.int .i64 a0_0, .slice A0_1 l0_1.length c0_1], .slice (some ad704) l1.length c1, .int .i64 (rd l1 x8_2)] (by rfl) rfl rfl mM ?_
      with_reducible refine (spec_l8Inside.calls k2 a0_0 _ _ l0_1 _ _ l1 (rd l1 x8_2) t709 _ ?side1 ?side2 ?side3 ?side4 A25.out).mono ?_
      (case side1 => exact cP (Kd.C_below HR0_1.out HB.out))
      (case side2 => exact HC0_1.out)
      (case side3 => exact cP (Kd.C_below HR1.out HB.out))
      (case side4 => exact HC1.out)
      rintro e w30 ⟨rfl, hb⟩
      refine ⟨_, rfl, ?_⟩
      have n0_ := aM (Kd.R_below (by exact rP HO707.out) hb)
      have n1_ := aM (kB hb BK700.out)
      have n2_ := aM (below_step (by exact bB) hb)
      clear HO707
      clear BK700
      clear HB
      have HO707 := n0_
      have BK700 := n1_
      have HB := n2_
      clear n0_ n1_ n2_
      (try clear hb)
      (try clear hb2)
      (try clear hk)
      (try clear hi)
      refine hK.out _ _ ⟨(blk_cell BK700.out 0).trans rfl, (blk_cell BK700.out 1).trans rfl, ((HB.out.cell (World.block_lt_of_cell? w _ hw704_0)).trans hw704_0), ((HB.out.cell (World.block_lt_of_cell? w _ hw708_0)).trans hw708_0)⟩ (fun hHeld => ?_)
      clear hK K
      refine norm_ (a' := ?_) ?_ ?_
      rotate_left
      ·show Act.put _ (some 42) _ = _
       simp only [Act.put, List.setIfInBounds_toArray, List.set_cons_zero, List.set_cons_succ, i64_w, i32_w]
       rfl
      refine pure_ (i := 14) (N := some 43) (v := ?_) (a' := ?_) #[true,true,true,true,true,true,true,true,true,true,true,true,true,true,true,true,false] rfl rfl (any_of HT_.out (by kernel_rfl)) (fun _ _ _ h => h) (Or.inl ⟨by rfl, ?_⟩) ?_ ?_
      rotate_left
      ·intro w'
       go_simp
       with_reducible rfl
      rotate_left
      ·exact aP
      refine pure_ (i := 16) (N := some 45) (v := ?_) (a' := ?_) #[true,true,true,true,true,true,true,true,true,true,true,true,true,true,true,true,true] rfl rfl (any_of HT_.out (by kernel_rfl)) (fun _ _ _ h => h) (Or.inl ⟨by rfl, ?_⟩) ?_ ?_
      rotate_left
      ·intro w'
       go_simp
       with_reducible rfl
      rotate_left
      ·exact aP
      refine done_ (done_of HT_.out (by kernel_rfl)) ?_
      try go_wp2
      go_ret2
      exact ⟨by first | rfl | (simp [errW_none, errW_some] <;> rfl) | (simp [*, errW_none, errW_some] <;> rfl), by exact bB⟩
     rw [if_neg c26] at H
     have c26b0 : decide (a2 ≤ (wrap64 ((t705.length : Int) - t709))) = false := decide_eq_false c26
     clear c26
     have H' := Aside0.mk H
     clear H
     try go_wp2
     have n0_ := aM (blk_drew BK700.out)
     have n1_ := aM (below_drew1 HB.out)
     clear BK700
     clear HB
     have BK700 := n0_
     have HB := n1_
     clear n0_ n1_
     have p704 : 0 ≤ (x8_2 : Int) := oA
     have q704 : x8_2 < (l1.length : Int) := oA
     obtain ⟨ad704, e704, hx704_0⟩ := Kd.at_int HR1.out x8_2 p704 q704
     have hw704_0 := hx704_0
     cases e704
     replace hx704_0 := (HB.out.cell (World.block_lt_of_cell? w _ hx704_0)).trans hx704_0
     replace p704 := eq_true p704
     replace q704 := eq_true q704
     have p708 : 0 ≤ (x8_2 : Int) := oA
     have q708 : x8_2 < (l1.length : Int) := oA
     obtain ⟨ad708, e708, hx708_0⟩ := Kd.at_int HR1.out x8_2 p708 q708
     have hw708_0 := hx708_0
     obtain rfl : ad704 = ad708 := (by injection e708)
     replace hx708_0 := (HB.out.cell (World.block_lt_of_cell? w _ hx708_0)).trans hx708_0
     replace p708 := eq_true p708
     replace q708 := eq_true q708
     refine start_ (n := 17) (S := fun w' => w'.cell? ⟨gb700, 0, none⟩ = some (.int .i64 a0_0) ∧ w'.cell? ⟨gb700, 1, none⟩ = some (.slice A0_1 l0_1.length c0_1) ∧ w'.cell? (ad704.add (x8_2).toNat) = some (.int .i64 (rd l1 x8_2)) ∧ w'.cell? (ad704.add (x8_2).toNat) = some (.int .i64 (rd l1 x8_2))) (ds := []) #[false,false,false,false,false,false,false,false,false,false,false,false,false,false,false,false,false] (by kernel_rfl) rfl rfl ⟨(blk_cell BK700.out 0).trans rfl, (blk_cell BK700.out 1).trans rfl, ((HB.out.cell (World.block_lt_of_cell? w _ hw704_0)).trans hw704_0), ((HB.out.cell (World.block_lt_of_cell? w _ hw708_0)).trans hw708_0)⟩ (fun hHeld => ?_);refine with_tabW spec_IsStopping.tab6 spec_IsStopping.bits6 (fun HT_ HW_ => ?_)
     generalize wr.drew = w31 at BK700 HB hx704_0 hx708_0 hHeld ⊢
     refine pure_ (i := 1) (N := some 30) (v := ?_) (a' := ?_) #[false,true,false,false,false,false,false,false,false,false,false,false,false,false,false,false,false] rfl rfl (any_of HT_.out (by kernel_rfl)) (fun _ _ _ h => h) (Or.inl ⟨by rfl, ?_⟩) ?_ ?_
     rotate_left
     ·intro w'
      go_simp
      with_reducible rfl
     rotate_left
     ·exact aP
     refine pure_ (i := 2) (N := some 31) (v := ?_) (a' := ?_) #[false,true,true,false,false,false,false,false,false,false,false,false,false,false,false,false,false] rfl rfl (any_of HT_.out (by kernel_rfl)) (fun _ _ _ h => h) (Or.inl ⟨by rfl, ?_⟩) ?_ ?_
     rotate_left
     ·intro w'
      go_simp
      with_reducible rfl
     rotate_left
     ·exact aP
     refine pure_ (i := 3) (N := some 32) (v := ?_) (a' := ?_) #[false,true,true,true,false,false,false,false,false,false,false,false,false,false,false,false,false] rfl rfl (any_of HT_.out (by kernel_rfl)) (fun _ _ _ h => h) (Or.inl ⟨by rfl, ?_⟩) ?_ ?_
     rotate_left
     ·intro w'
      go_simp
      with_reducible rfl
     rotate_left
     ·exact aP
     refine pure_ (i := 8) (N := some 37) (v := ?_) (a' := ?_) #[false,true,true,true,false,false,false,false,true,false,false,false,false,false,false,false,false] rfl rfl (any_of HT_.out (by kernel_rfl)) (fun _ _ _ h => h) (Or.inl ⟨by rfl, ?_⟩) ?_ ?_
     rotate_left
     ·intro w'
      go_simp
      with_reducible rfl
     rotate_left
     ·exact aP
     refine pure_ (i := 9) (N := some 38) (v := ?_) (a' := ?_) #[false,true,true,true,false,false,false,false,true,true,false,false,false,false,false,false,false] rfl rfl (any_of HT_.out (by kernel_rfl)) (fun _ _ _ h => h) (Or.inl ⟨by rfl, ?_⟩) ?_ ?_
     rotate_left
     ·intro w'
      go_simp
      with_reducible rfl
     rotate_left
     ·exact aP
     refine pure_ (i := 10) (N := some 39) (v := ?_) (a' := ?_) #[false,true,true,true,false,false,false,false,true,true,true,false,false,false,false,false,false] rfl rfl (any_of HT_.out (by kernel_rfl)) (fun _ _ _ h => h) (Or.inl ⟨by rfl, ?_⟩) ?_ ?_
     rotate_left
     ·intro w'
      go_simp
      with_reducible rfl
     rotate_left
     ·exact aP
     refine pure_ (i := 11) (N := some 40) (v := ?_) (a' := ?_) #[false,true,true,true,false,false,false,false,true,true,true,true,false,false,false,false,false] rfl rfl (any_of HT_.out (by kernel_rfl)) (fun _ _ _ h => h) (Or.inl ⟨by rfl, ?_⟩) ?_ ?_
     rotate_left
     ·intro w'
      go_simp
      with_reducible rfl
     rotate_left
     ·exact aP
     refine pure_ (i := 15) (N := some 44) (v := ?_) (a' := ?_) #[false,true,true,true,false,false,false,false,true,true,true,true,false,false,false,true,false] rfl rfl (any_of HT_.out (by kernel_rfl)) (fun _ _ _ h => h) (Or.inl ⟨by rfl, ?_⟩) ?_ ?_
     rotate_left
     ·intro w'
      go_simp
      with_reducible rfl
     rotate_left
     ·exact aP
     refine take_ (i := 0) (N := some 29) (v := ?_) (a' := ?_) #[true,true,true,true,false,false,false,false,true,true,true,true,false,false,false,true,false] rfl rfl (take_ofW HT_.out HW_.out (by kernel_rfl)) (fun _ _ _ h => h) (Or.inl ⟨by rfl, ?_⟩) hHeld ?_ ?_
     rotate_left
     ·rintro w' ⟨s0, s1, s2, s3⟩
      go_simp
      with_reducible rfl
     rotate_left
     ·exact aP
     refine take_ (i := 4) (N := some 33) (v := ?_) (a' := ?_) #[true,true,true,true,true,false,false,false,true,true,true,true,false,false,false,true,false] rfl rfl (take_ofW HT_.out HW_.out (by kernel_rfl)) (fun _ _ _ h => h) (Or.inl ⟨by rfl, ?_⟩) hHeld ?_ ?_
     rotate_left
     ·rintro w' ⟨s0, s1, s2, s3⟩
      go_simp
      with_reducible rfl
     rotate_left
     ·exact aP
     refine take_ (i := 7) (N := some 36) (v := ?_) (a' := ?_) #[true,true,true,true,true,false,false,true,true,true,true,true,false,false,false,true,false] rfl rfl (take_ofW HT_.out HW_.out (by kernel_rfl)) (fun _ _ _ h => h) (Or.inl ⟨by rfl, ?_⟩) hHeld ?_ ?_
     rotate_left
     ·rintro w' ⟨s0, s1, s2, s3⟩
      go_simp
      with_reducible rfl
     rotate_left
     ·exact aP
     refine take_ (i := 12) (N := some 41) (v := ?_) (a' := ?_) #[true,true,true,true,true,false,false,true,true,true,true,true,true,false,false,true,false] rfl rfl (take_ofW HT_.out HW_.out (by kernel_rfl)) (fun _ _ _ h => h) (Or.inl ⟨by rfl, ?_⟩) hHeld ?_ ?_
     rotate_left
     ·rintro w' ⟨s0, s1, s2, s3⟩
      go_simp
      with_reducible rfl
     rotate_left
     ·exact aP
     refine one_ (i := 5) (N := some 34) #[true,true,true,true,true,true,false,true,true,true,true,true,true,false,false,true,false] rfl rfl (one_of HT_.out (by kernel_rfl)) (by decide) (fun K hK => ?_)
     refine goes_ Try.func104 (by kernel_rfl) rfl #[.agg #[.int .i64 a0_0, .slice A0_1 l0_1.length c0_1], .int .i64 (rd l1 x8_2)] (by rfl) rfl rfl mM ?_
     with_reducible refine (spec_l2Neighbors.calls k2 a0_0 _ _ l0_1 (rd l1 x8_2) t705 _ ?side1 ?side2 A24.out).mono ?_
     (case side1 => exact cP (Kd.C_below HR0_1.out HB.out))
     (case side2 => exact HC0_1.out)
     rintro e w32 ⟨v706, rfl, ho0, hb⟩
     refine ⟨_, rfl, ?_⟩
     have n0_ := aM (Kd.R_lower ho0 (below_size (by exact bB)))
     have n1_ := aM (kB hb BK700.out)
     have n2_ := aM (below_step (by exact bB) hb)
     clear BK700
     clear HB
     have HO707 := n0_
     have BK700 := n1_
     have HB := n2_
     clear n0_ n1_ n2_
     (try clear hb)
     (try clear hb2)
     (try clear hk)
     (try clear hi)
     (try clear ho0)
     obtain ⟨Ao33, co33, eo33⟩ := Kd.R_slice HO707.out
     (first | subst eo33 | (injection eo33 with f1_ f2_ f3_;have f4_ := f1_.symm;have f5_ := f3_.symm;clear f1_ f2_ f3_;subst f4_;subst f5_))
     refine hK.out _ _ ⟨(blk_cell BK700.out 0).trans rfl, (blk_cell BK700.out 1).trans rfl, ((HB.out.cell (World.block_lt_of_cell? w _ hw704_0)).trans hw704_0), ((HB.out.cell (World.block_lt_of_cell? w _ hw708_0)).trans hw708_0)⟩ (fun hHeld => ?_)
     clear hK K
     refine norm_ (a' := ?_) ?_ ?_
     rotate_left
     ·show Act.put _ (some 34) _ = _
      simp only [Act.put, List.setIfInBounds_toArray, List.set_cons_zero, List.set_cons_succ, i64_w, i32_w]
      rfl
     refine pure_ (i := 6) (N := some 35) (v := ?_) (a' := ?_) #[true,true,true,true,true,true,true,true,true,true,true,true,true,false,false,true,false] rfl rfl (any_of HT_.out (by kernel_rfl)) (fun _ _ _ h => h) (Or.inl ⟨by rfl, ?_⟩) ?_ ?_
     rotate_left
     ·intro w'
      go_simp
      with_reducible rfl
     rotate_left
     ·exact aP
     refine one_ (i := 13) (N := some 42) #[true,true,true,true,true,true,true,true,true,true,true,true,true,true,false,true,false] rfl rfl (one_of HT_.out (by kernel_rfl)) (by decide) (fun K hK => ?_)
     refine goes_ Try.func105 (by kernel_rfl) rfl #[.agg #[.int .i64 a0_0, .slice A0_1 l0_1.length c0_1], .slice (some ad704) l1.length c1, .int .i64 (rd l1 x8_2)] (by rfl) rfl rfl mM ?_
     with_reducible refine (spec_l8Inside.calls k2 a0_0 _ _ l0_1 _ _ l1 (rd l1 x8_2) t709 _ ?side1 ?side2 ?side3 ?side4 A25.out).mono ?_
     (case side1 => exact cP (Kd.C_below HR0_1.out HB.out))
     (case side2 => exact HC0_1.out)
     (case side3 => exact cP (Kd.C_below HR1.out HB.out))
     (case side4 => exact HC1.out)
     rintro e w34 ⟨rfl, hb⟩
     refine ⟨_, rfl, ?_⟩
     have n0_ := aM (Kd.R_below (by exact rP HO707.out) hb)
     have n1_ := aM (kB hb BK700.out)
     have n2_ := aM (below_step (by exact bB) hb)
     clear HO707
     clear BK700
     clear HB
     have HO707 := n0_
     have BK700 := n1_
     have HB := n2_
     clear n0_ n1_ n2_
     (try clear hb)
     (try clear hb2)
     (try clear hk)
     (try clear hi)
     refine hK.out _ _ ⟨(blk_cell BK700.out 0).trans rfl, (blk_cell BK700.out 1).trans rfl, ((HB.out.cell (World.block_lt_of_cell? w _ hw704_0)).trans hw704_0), ((HB.out.cell (World.block_lt_of_cell? w _ hw708_0)).trans hw708_0)⟩ (fun hHeld => ?_)
     clear hK K
     refine norm_ (a' := ?_) ?_ ?_
     rotate_left
     ·show Act.put _ (some 42) _ = _
      simp only [Act.put, List.setIfInBounds_toArray, List.set_cons_zero, List.set_cons_succ, i64_w, i32_w]
      rfl
     refine pure_ (i := 14) (N := some 43) (v := ?_) (a' := ?_) #[true,true,true,true,true,true,true,true,true,true,true,true,true,true,true,true,false] rfl rfl (any_of HT_.out (by kernel_rfl)) (fun _ _ _ h => h) (Or.inl ⟨by rfl, ?_⟩) ?_ ?_
     rotate_left
     ·intro w'
      go_simp
      with_reducible rfl
     rotate_left
     ·exact aP
     refine pure_ (i := 16) (N := some 45) (v := ?_) (a' := ?_) #[true,true,true,true,true,true,true,true,true,true,true,true,true,true,true,true,true] rfl rfl (any_of HT_.out (by kernel_rfl)) (fun _ _ _ h => h) (Or.inl ⟨by rfl, ?_⟩) ?_ ?_
     rotate_left
     ·intro w'
      go_simp
      with_reducible rfl
     rotate_left
     ·exact aP
     refine done_ (done_of HT_.out (by kernel_rfl)) ?_
     try go_wp2
     go_roundg k2
     case measure => have := HJ3.out;have := HK2.out;omega
     case rel => exact ⟨(wrap64 (x8_2 + 1)), (by first | rfl | (simp;done) | (simp [*];done)), H', ⟨by have := HJ3.out;have := HK2.out;omega⟩, ⟨by exact kP BK700.out⟩, ⟨by exact bB⟩⟩


end Go.Proofs.Ytmokkhfmbenleaa.QSpreading
