import Derived.Test.YtgahlimikndecaaDoorQEternalFamily0
import Derived.Test.YtgahlimikndecaaDoorQEternalFamily1
namespace Go.Proofs.YtgahlimikndecaaDoor.QEternalFamily
open Go.RowKit Go.Proofs.YtgahlimikndecaaDoorW.PrintWords Go.Proofs.YtgahlimikndecaaDoorW.PrintLast Go.Proofs.YtgahlimikndecaaDoorW.PrintMore
attribute [local go_sem] max2_int min2_int max_two min_two max_three min_three max_four min_four   -- for this text's walks alone
set_option linter.unusedVariables false
set_option linter.unusedSimpArgs false
set_option maxRecDepth 100000
set_option maxHeartbeats 8000000
/-! ### spec_l10Matches: function 102 -/
mutual
def spec_l10Matches.l0 : Nat → List Int → List Int → Int → List Int → Int → Int → List (S78) → Option (Bool)
 | 0, _, _, _, _, _, _, _ => none
 | k + 1, x1, x2, x3, x4, x11, x161000, x161001 => if x11 < (x2.length : Int) then (if 0 ≤ x11 then ((spec_l1Has.f k x4 (rd x2 x11)).bind fun t162 => (if t162 = true then (spec_l10Matches.j1 k x1 x2 x3 x4 x11 true x161000 x161001) else (if 0 ≤ x3 then (if x3 < (x1.length : Int) then (if (rd x2 x11) = (rd x1 x3) then (spec_l10Matches.j1 k x1 x2 x3 x4 x11 false x161000 x161001) else ((spec_l2Near.f k x161000 x161001 (rd x1 x3) (rd x2 x11)).bind fun t167 => (spec_l10Matches.j1 k x1 x2 x3 x4 x11 (!t167) x161000 x161001))) else (none)) else (none)))) else (none)) else (some false)
def spec_l10Matches.j1 : Nat → List Int → List Int → Int → List Int → Int → Bool → Int → List (S78) → Option (Bool)
 | 0, _, _, _, _, _, _, _, _ => none
 | k + 1, x1, x2, x3, x4, x11, x51, x161000, x161001 => if x51 = true then (spec_l10Matches.l0 k x1 x2 x3 x4 (wrap64 (x11 + 1)) x161000 x161001) else ((spec_l1Own.f x4).bind fun t168 => (if 0 ≤ x11 then (if x11 < (x2.length : Int) then ((some (([rd x2 x11] : List Int) : List Int)).bind fun y172 => (if t168.length + y172.length < 17592186044416 then ((spec_l10Matches.f k x161000 x161001 x1 x2 (wrap64 (x3 + 1)) (t168 ++ y172)).bind fun t178 => (if t178 = true then (some true) else (spec_l10Matches.l0 k x1 x2 x3 x4 (wrap64 (x11 + 1)) x161000 x161001))) else (none))) else (none)) else (none)))
def spec_l10Matches.f : Nat → Int → List (S78) → List Int → List Int → Int → List Int → Option (Bool)
 | 0, _, _, _, _, _, _ => none
 | k + 1, a0_0, l0_1, l1, l2, a3, l4 => if a3 = (l1.length : Int) then (some true) else (spec_l10Matches.l0 k l1 l2 a3 l4 0 a0_0 l0_1)
end
theorem spec_l10Matches.mono_l : ∀ k, (∀ y0 y1 y2 y3 y4 y5, LeO (spec_l10Matches.f k y0 y1 y2 y3 y4 y5) (spec_l10Matches.f (k + 1) y0 y1 y2 y3 y4 y5)) ∧ (∀ y0 y1 y2 y3 y4 y5 y6, LeO (spec_l10Matches.l0 k y0 y1 y2 y3 y4 y5 y6) (spec_l10Matches.l0 (k + 1) y0 y1 y2 y3 y4 y5 y6)) ∧ (∀ y0 y1 y2 y3 y4 y5 y6 y7, LeO (spec_l10Matches.j1 k y0 y1 y2 y3 y4 y5 y6 y7) (spec_l10Matches.j1 (k + 1) y0 y1 y2 y3 y4 y5 y6 y7))
 | 0 => ⟨fun _ _ _ _ _ _ r h => by simp [spec_l10Matches.f] at h, fun _ _ _ _ _ _ _ r h => by simp [spec_l10Matches.l0] at h, fun _ _ _ _ _ _ _ _ r h => by simp [spec_l10Matches.j1] at h⟩
 | k + 1 => by
  obtain ⟨ih0, ih1, ih2⟩ := spec_l10Matches.mono_l k
  refine ⟨?_, ?_, ?_⟩
  ·intro y0 y1 y2 y3 y4 y5
   unfold spec_l10Matches.f
   have q0 := spec_l1Has.mono
   have q1 := spec_l2Near.mono
   exact lM
  ·intro y0 y1 y2 y3 y4 y5 y6
   unfold spec_l10Matches.l0
   have q0 := spec_l1Has.mono
   have q1 := spec_l2Near.mono
   exact lM
  ·intro y0 y1 y2 y3 y4 y5 y6 y7
   unfold spec_l10Matches.j1
   have q0 := spec_l1Has.mono
   have q1 := spec_l2Near.mono
   exact lM
theorem spec_l10Matches.mono : ∀ a0 a1 a2 a3 a4 a5 k, LeO (spec_l10Matches.f k a0 a1 a2 a3 a4 a5) (spec_l10Matches.f (k + 1) a0 a1 a2 a3 a4 a5) := by
 intro a0 a1 a2 a3 a4 a5 k
 obtain ⟨ih0, ih1, ih2⟩ := spec_l10Matches.mono_l k
 exact ih0 a0 a1 a2 a3 a4 a5
def spec_l10Matches.T6 : Bool × List (List Nat × List Nat) := (true, [([], []), ([], []), ([], []), ([1, 2], [1, 2]), ([3], [3]), ([0, 4], [0, 4]), ([5, 5], [5]), ([6], [6]), ([6], [6]), ([7, 8, 6], [6, 7, 8]), ([9, 6], [6, 9]), ([6], [6]), ([6], [6]), ([11, 12, 6], [6, 11, 12]), ([13, 6], [6, 13]), ([10, 14, 6], [6, 10, 14]), ([15, 6, 6], [6, 15]), ([16], [16]), ([16], [16]), ([16], [16]), ([18, 19, 16], [16, 18, 19]), ([20, 16], [16, 20]), ([16], [16]), ([16], [16]), ([22, 23, 16], [16, 22, 23]), ([24, 16], [16, 24]), ([17, 21, 25, 16, 16], [16, 17, 21, 25]), ([26, 16], [16, 26]), ([16, 27, 6], [6, 16, 27]), ([6, 28], [6, 28])])
def spec_l10Matches.B6 : List Nat := [0, 0, 0, 6, 14, 31, 63, 127, 127, 511, 1023, 127, 127, 6271, 14463, 32767, 65535, 131071, 131071, 131071, 917503, 1966079, 131071, 131071, 12713983, 29491199, 67108863, 134217727, 268435455, 536870911]
theorem spec_l10Matches.tab6 : rtab .any (opsOf Tryd.f102 6) = spec_l10Matches.T6 := by kernel_rfl
theorem spec_l10Matches.bits6 : waitsOk spec_l10Matches.T6.2 spec_l10Matches.B6 = true := by kernel_rfl
def spec_l10Matches.T7 : Bool × List (List Nat × List Nat) := (true, [([], []), ([], []), ([], []), ([], []), ([3], [3]), ([], []), ([5], [5]), ([], []), ([], []), ([7, 8], [7, 8]), ([9], [9]), ([10], [10]), ([6, 11, 6], [6, 11]), ([0, 1, 2, 4, 12, 12], [0, 1, 2, 4, 12])])
def spec_l10Matches.B7 : List Nat := [0, 0, 0, 0, 8, 0, 32, 0, 0, 384, 896, 1920, 4064, 8191]
theorem spec_l10Matches.tab7 : rtab .any (opsOf Tryd.f102 7) = spec_l10Matches.T7 := by kernel_rfl
theorem spec_l10Matches.bits7 : waitsOk spec_l10Matches.T7.2 spec_l10Matches.B7 = true := by kernel_rfl
theorem spec_l10Matches.calls (k : Nat) : ∀ (a0_0 : Int) (A0_1 : Option Addr) (c0_1 : Nat) (l0_1 : List (S78)) (A1 : Option Addr) (c1 : Nat) (l1 : List Int) (A2 : Option Addr) (c2 : Nat) (l2 : List Int) (a3 : Int) (A4 : Option Addr) (c4 : Nat) (l4 : List Int) (r : Bool) (w : World) (hr0_1 : Kd.C k78 w A0_1 l0_1.length l0_1) (hc0_1 : l0_1.length ≤ c0_1) (hr1 : Kd.C (Kd.int .i64) w A1 l1.length l1) (hc1 : l1.length ≤ c1) (hr2 : Kd.C (Kd.int .i64) w A2 l2.length l2) (hc2 : l2.length ≤ c2) (hr4 : Kd.C (Kd.int .i64) w A4 l4.length l4) (hc4 : l4.length ≤ c4) (h : spec_l10Matches.f k a0_0 l0_1 l1 l2 a3 l4 = some r),
  Calls Tryd.prog 102 #[.agg #[.int .i64 a0_0, .slice A0_1 l0_1.length c0_1], .slice A1 l1.length c1, .slice A2 l2.length c2, .int .i64 a3, .slice A4 l4.length c4] w fun e w' => e = .returned (.bool r) ∧ Below w.heap.size w w' := by
 induction k using Nat.strongRecOn with
 | _ k ih =>
 intro a0_0 A0_1 c0_1 l0_1 A1 c1 l1 A2 c2 l2 a3 A4 c4 l4 r w hr0_1 hc0_1 hr1 hc1 hr2 hc2 hr4 hc4 h
 cases k with
 | zero => exact absurd h (by simp [spec_l10Matches.f])
 | succ k =>
 simp only [spec_l10Matches.f] at h
 have hu29 := Tryd.underlying29
 have HR0_1 := Aside0.mk hr0_1
 have HC0_1 := Aside0.mk hc0_1
 clear hr0_1 hc0_1
 have HR1 := Aside0.mk hr1
 have HC1 := Aside0.mk hc1
 clear hr1 hc1
 have HR2 := Aside0.mk hr2
 have HC2 := Aside0.mk hc2
 clear hr2 hc2
 have HR4 := Aside0.mk hr4
 have HC4 := Aside0.mk hc4
 clear hr4 hc4
 have HB := aM (Below.refl w.heap.size w)
 have H : (if a3 = (l1.length : Int) then (some true) else (spec_l10Matches.l0 k l1 l2 a3 l4 0 a0_0 l0_1)) = some r := h
 clear h
 by_cases c6 : a3 = (l1.length : Int)
 ·rw [if_pos c6] at H
  have c6b0 : (a3 == (l1.length : Int)) = true := beq_iff_eq.mpr c6
  have c6b1 : (a3 != (l1.length : Int)) = false := bne_eq_false_iff_eq.mpr c6
  clear c6
  obtain rfl := Option.some.inj H
  go_enter Tryd.func102, Tryd.ntmps102
  go_wp2_with (first | ((with_reducible refine gate_dst (N := 5) rfl ?_);refine box_event ?hg (N := 5) ?hd (cs := #[.int .i64 a0_0, .slice A0_1 l0_1.length c0_1]) (t := 29) ?hr ?_;(case hd => rfl);(case hg => rfl);(case hr => exact gS);intro gb160 hg w7 hbox hb;have n0_ := aM (below_step (by exact bB) hb);have n1_ := aM (hbox);have n2_ := aM (sW hg : w.heap.size ≤ gb160);have n3_ := aM (sW hg : w.heap.size ≤ gb160);clear HB;have HB := n0_;have BK160 := n1_;have GW160 := n2_;have GE160 := n3_;clear n0_ n1_ n2_ n3_;clear hb hbox hg))
  go_ret
  exact ⟨eW, by exact bB⟩
 rw [if_neg c6] at H
 have c6b0 : (a3 == (l1.length : Int)) = false := beq_eq_false_iff_ne.mpr c6
 have c6b1 : (a3 != (l1.length : Int)) = true := bne_iff_ne.mpr c6
 have H' := Aside0.mk H
 clear H
 go_enter Tryd.func102, Tryd.ntmps102
 go_wp2_with (first | ((with_reducible refine gate_dst (N := 5) rfl ?_);refine box_event ?hg (N := 5) ?hd (cs := #[.int .i64 a0_0, .slice A0_1 l0_1.length c0_1]) (t := 29) ?hr ?_;(case hd => rfl);(case hg => rfl);(case hr => exact gS);intro gb160 hg w8 hbox hb;have n0_ := aM (below_step (by exact bB) hb);have n1_ := aM (hbox);have n2_ := aM (sW hg : w.heap.size ≤ gb160);have n3_ := aM (sW hg : w.heap.size ≤ gb160);clear HB;have HB := n0_;have BK160 := n1_;have GW160 := n2_;have GE160 := n3_;clear n0_ n1_ n2_ n3_;clear hb hbox hg))
 go_loopg [11] k (fun kq v11 w' => ∃ (x11_1 : Int), v11 = .int .i64 x11_1 ∧ Aside0 (spec_l10Matches.l0 kq l1 l2 a3 l4 x11_1 a0_0 l0_1 = some r) ∧ Aside0 (kq ≤ k) ∧ Aside0 (w'.heap[gb160]? = some (.cells #[.int .i64 a0_0, (.slice A0_1 l0_1.length c0_1)] 29 (0, 0))) ∧ Aside0 (Below w.heap.size w w'))
 case atStart => exact ⟨(0), eF, H', ⟨Nat.le_refl _⟩, ⟨by exact kP BK160.out⟩, ⟨by exact bB⟩⟩
 case round =>
  clear H'
  try clear c1
  try clear c2
  try clear p2
  try clear c4
  try clear c6
  try clear c6b0
  try clear c6b1
  obtain ⟨x11_1, rfl, HA, HK1, BK160, HB⟩ := hrel
  cases gk with
  | zero => exact absurd HA.out (by simp [spec_l10Matches.l0])
  | succ k1 =>
   have H := HA.out
   clear HA
   simp only [spec_l10Matches.l0] at H
   by_cases c9 : x11_1 < (l2.length : Int)
   rotate_left
   ·rw [if_neg c9] at H
    have c9b0 : decide (x11_1 < (l2.length : Int)) = false := decide_eq_false c9
    clear c9
    obtain rfl := Option.some.inj H
    go_wp2
    go_ret
    exact ⟨eW, by exact bB⟩
   rw [if_pos c9] at H
   have c9b0 : decide (x11_1 < (l2.length : Int)) = true := decide_eq_true c9
   clear c9
   have HC10 := Aside0.mk H
   clear H
   go_upto_region 6 with (fail)
   go_cut [51] (fun v51 wc => ∃ (kq : Nat) (x51_9 : Bool), v51 = .bool x51_9 ∧ Aside0 (spec_l10Matches.j1 kq l1 l2 a3 l4 x11_1 x51_9 a0_0 l0_1 = some r) ∧ Aside0 (kq ≤ k1) ∧ Aside0 (wc.heap[gb160]? = some (.cells #[.int .i64 a0_0, (.slice A0_1 l0_1.length c0_1)] 29 (0, 0))) ∧ Aside0 (Below w.heap.size w wc))
   case first =>
    have H := HC10.out
    clear HC10
    by_cases c11 : 0 ≤ x11_1
    rotate_left
    ·rw [if_neg c11] at H
     exact absurd H (by simp)
    rw [if_pos c11] at H
    have c11b0 : decide (0 ≤ x11_1) = true := decide_eq_true c11
    clear c11
    (first | rw [c11b0] | (simp only [i64_w, i32_w];rw [c11b0]) | skip)
    replace H := Option.bind_eq_some_iff.mp H
    obtain ⟨t162, A120, H⟩ := H
    try dsimp only at H
    have A12 := Aside0.mk A120
    clear A120
    by_cases c13 : t162 = true
    ·subst c13
     rw [if_pos rfl] at H
     have H' := Aside0.mk H
     clear H
     try go_wp2
     have n0_ := aM (blk_drew BK160.out)
     have n1_ := aM (below_drew1 HB.out)
     clear BK160
     clear HB
     have BK160 := n0_
     have HB := n1_
     clear n0_ n1_
     have p161 : 0 ≤ (x11_1 : Int) := oA
     have q161 : x11_1 < (l2.length : Int) := oA
     obtain ⟨ad161, e161, hx161_0⟩ := Kd.at_int HR2.out x11_1 p161 q161
     have hw161_0 := hx161_0
     cases e161
     replace hx161_0 := (HB.out.cell (World.block_lt_of_cell? w _ hx161_0)).trans hx161_0
     replace p161 := eq_true p161
     replace q161 := eq_true q161
     refine start_ (n := 30) (S := fun w' => w'.cell? (ad161.add (x11_1).toNat) = some (.int .i64 (rd l2 x11_1))) (ds := []) (pT 0 30) (by kernel_rfl) rfl rfl (((HB.out.cell (World.block_lt_of_cell? w _ hw161_0)).trans hw161_0)) (fun hHeld => ?_);refine with_tabW spec_l10Matches.tab6 spec_l10Matches.bits6 (fun HT_ HW_ => ?_)
     generalize wr.drew = w14 at BK160 HB hx161_0 hHeld ⊢
     refine pure_ (i := 0) (N := some 22) (v := ?_) (a' := ?_) (pT 1 29) rfl rfl (any_of HT_.out (by kernel_rfl)) (fun _ _ _ h => h) (Or.inl ⟨by rfl, ?_⟩) ?_ ?_
     rotate_left
     ·intro w'
      go_simp
      with_reducible rfl
     rotate_left
     ·exact aP
     refine pure_ (i := 1) (N := some 23) (v := ?_) (a' := ?_) (pT 2 28) rfl rfl (any_of HT_.out (by kernel_rfl)) (fun _ _ _ h => h) (Or.inl ⟨by rfl, ?_⟩) ?_ ?_
     rotate_left
     ·intro w'
      go_simp
      with_reducible rfl
     rotate_left
     ·exact aP
     refine pure_ (i := 2) (N := some 24) (v := ?_) (a' := ?_) (pT 3 27) rfl rfl (any_of HT_.out (by kernel_rfl)) (fun _ _ _ h => h) (Or.inl ⟨by rfl, ?_⟩) ?_ ?_
     rotate_left
     ·intro w'
      go_simp
      with_reducible rfl
     rotate_left
     ·exact aP
     refine pure_ (i := 3) (N := some 25) (v := ?_) (a' := ?_) (pT 4 26) rfl rfl (any_of HT_.out (by kernel_rfl)) (fun _ _ _ h => h) (Or.inl ⟨by rfl, ?_⟩) ?_ ?_
     rotate_left
     ·intro w'
      go_simp
      with_reducible rfl
     rotate_left
     ·exact aP
     refine take_ (i := 4) (N := some 26) (v := ?_) (a' := ?_) (pT 5 25) rfl rfl (take_ofW HT_.out HW_.out (by kernel_rfl)) (fun _ _ _ h => h) (Or.inl ⟨by rfl, ?_⟩) hHeld ?_ ?_
     rotate_left
     ·intro w' s0
      go_simp
      with_reducible rfl
     rotate_left
     ·exact aP
     refine one_ (i := 5) (N := some 27) (pT 6 24) rfl rfl (one_of HT_.out (by kernel_rfl)) (by decide) (fun K hK => ?_)
     refine goes_ Tryd.func43 (by kernel_rfl) rfl #[.slice A4 l4.length c4, .int .i64 (rd l2 x11_1)] (by rfl) rfl rfl mM ?_
     with_reducible refine (spec_l1Has.calls k1 _ _ l4 (rd l2 x11_1) true _ ?side1 ?side2 A12.out).mono ?_
     (case side1 => exact cP (Kd.C_below HR4.out HB.out))
     (case side2 => exact HC4.out)
     rintro e w' ⟨rfl, ⟨nd, rfl⟩⟩
     refine ⟨_, rfl, ?_⟩
     refine hK.out _ _ (((HB.out.cell (World.block_lt_of_cell? w _ hw161_0)).trans hw161_0)) (fun hHeld => ?_)
     clear hK K
     refine norm_ (a' := ?_) ?_ ?_
     rotate_left
     ·show Act.put _ (some 27) _ = _
      simp only [Act.put, List.setIfInBounds_toArray, List.set_cons_zero, List.set_cons_succ, i64_w, i32_w]
      rfl
     refine pure_ (i := 6) (N := some 28) (v := ?_) (a' := ?_) (pT 7 23) rfl rfl (any_of HT_.out (by kernel_rfl)) (fun _ _ _ h => h) (Or.inl ⟨by rfl, ?_⟩) ?_ ?_
     rotate_left
     ·intro w'
      go_simp
      with_reducible rfl
     rotate_left
     ·exact aP
     refine pure_ (i := 7) (N := some 29) (v := undef) (a' := ?_) (pT 8 22) rfl rfl (any_of HT_.out (by kernel_rfl)) (fun _ _ _ h => h) (Or.inr ⟨by rfl, rfl⟩) ?_ ?_
     rotate_left
     ·exact aP
     refine pure_ (i := 8) (N := some 30) (v := undef) (a' := ?_) (pT 9 21) rfl rfl (any_of HT_.out (by kernel_rfl)) (fun _ _ _ h => h) (Or.inr ⟨by rfl, rfl⟩) ?_ ?_
     rotate_left
     ·exact aP
     refine pure_ (i := 9) (N := some 31) (v := undef) (a' := ?_) (pT 10 20) rfl rfl (any_of HT_.out (by kernel_rfl)) (fun _ _ _ h => h) (Or.inr ⟨by rfl, rfl⟩) ?_ ?_
     rotate_left
     ·exact aP
     refine pure_ (i := 10) (N := some 32) (v := undef) (a' := ?_) (pT 11 19) rfl rfl (any_of HT_.out (by kernel_rfl)) (fun _ _ _ h => h) (Or.inr ⟨by rfl, rfl⟩) ?_ ?_
     rotate_left
     ·exact aP
     refine pure_ (i := 11) (N := some 33) (v := undef) (a' := ?_) (pT 12 18) rfl rfl (any_of HT_.out (by kernel_rfl)) (fun _ _ _ h => h) (Or.inr ⟨by rfl, rfl⟩) ?_ ?_
     rotate_left
     ·exact aP
     refine pure_ (i := 12) (N := some 34) (v := undef) (a' := ?_) (pT 13 17) rfl rfl (any_of HT_.out (by kernel_rfl)) (fun _ _ _ h => h) (Or.inr ⟨by rfl, rfl⟩) ?_ ?_
     rotate_left
     ·exact aP
     refine pure_ (i := 13) (N := some 35) (v := undef) (a' := ?_) (pT 14 16) rfl rfl (any_of HT_.out (by kernel_rfl)) (fun _ _ _ h => h) (Or.inr ⟨by rfl, rfl⟩) ?_ ?_
     rotate_left
     ·exact aP
     refine pure_ (i := 14) (N := some 36) (v := undef) (a' := ?_) (pT 15 15) rfl rfl (any_of HT_.out (by kernel_rfl)) (fun _ _ _ h => h) (Or.inr ⟨by rfl, rfl⟩) ?_ ?_
     rotate_left
     ·exact aP
     refine pure_ (i := 15) (N := some 37) (v := undef) (a' := ?_) (pT 16 14) rfl rfl (any_of HT_.out (by kernel_rfl)) (fun _ _ _ h => h) (Or.inr ⟨by rfl, rfl⟩) ?_ ?_
     rotate_left
     ·exact aP
     refine pure_ (i := 16) (N := some 38) (v := undef) (a' := ?_) (pT 17 13) rfl rfl (any_of HT_.out (by kernel_rfl)) (fun _ _ _ h => h) (Or.inr ⟨by rfl, rfl⟩) ?_ ?_
     rotate_left
     ·exact aP
     refine pure_ (i := 17) (N := some 39) (v := undef) (a' := ?_) (pT 18 12) rfl rfl (any_of HT_.out (by kernel_rfl)) (fun _ _ _ h => h) (Or.inr ⟨by rfl, rfl⟩) ?_ ?_
     rotate_left
     ·exact aP
     refine pure_ (i := 18) (N := some 40) (v := undef) (a' := ?_) (pT 19 11) rfl rfl (any_of HT_.out (by kernel_rfl)) (fun _ _ _ h => h) (Or.inr ⟨by rfl, rfl⟩) ?_ ?_
     rotate_left
     ·exact aP
     refine pure_ (i := 19) (N := some 41) (v := undef) (a' := ?_) (pT 20 10) rfl rfl (any_of HT_.out (by kernel_rfl)) (fun _ _ _ h => h) (Or.inr ⟨by rfl, rfl⟩) ?_ ?_
     rotate_left
     ·exact aP
     refine pure_ (i := 20) (N := some 42) (v := undef) (a' := ?_) (pT 21 9) rfl rfl (any_of HT_.out (by kernel_rfl)) (fun _ _ _ h => h) (Or.inr ⟨by rfl, rfl⟩) ?_ ?_
     rotate_left
     ·exact aP
     refine pure_ (i := 21) (N := some 43) (v := undef) (a' := ?_) (pT 22 8) rfl rfl (any_of HT_.out (by kernel_rfl)) (fun _ _ _ h => h) (Or.inr ⟨by rfl, rfl⟩) ?_ ?_
     rotate_left
     ·exact aP
     refine pure_ (i := 22) (N := some 44) (v := undef) (a' := ?_) (pT 23 7) rfl rfl (any_of HT_.out (by kernel_rfl)) (fun _ _ _ h => h) (Or.inr ⟨by rfl, rfl⟩) ?_ ?_
     rotate_left
     ·exact aP
     refine pure_ (i := 23) (N := some 45) (v := undef) (a' := ?_) (pT 24 6) rfl rfl (any_of HT_.out (by kernel_rfl)) (fun _ _ _ h => h) (Or.inr ⟨by rfl, rfl⟩) ?_ ?_
     rotate_left
     ·exact aP
     refine pure_ (i := 24) (N := some 46) (v := undef) (a' := ?_) (pT 25 5) rfl rfl (any_of HT_.out (by kernel_rfl)) (fun _ _ _ h => h) (Or.inr ⟨by rfl, rfl⟩) ?_ ?_
     rotate_left
     ·exact aP
     refine pure_ (i := 25) (N := some 47) (v := undef) (a' := ?_) (pT 26 4) rfl rfl (any_of HT_.out (by kernel_rfl)) (fun _ _ _ h => h) (Or.inr ⟨by rfl, rfl⟩) ?_ ?_
     rotate_left
     ·exact aP
     refine pure_ (i := 26) (N := some 48) (v := undef) (a' := ?_) (pT 27 3) rfl rfl (any_of HT_.out (by kernel_rfl)) (fun _ _ _ h => h) (Or.inr ⟨by rfl, rfl⟩) ?_ ?_
     rotate_left
     ·exact aP
     refine pure_ (i := 27) (N := some 49) (v := undef) (a' := ?_) (pT 28 2) rfl rfl (any_of HT_.out (by kernel_rfl)) (fun _ _ _ h => h) (Or.inr ⟨by rfl, rfl⟩) ?_ ?_
     rotate_left
     ·exact aP
     refine pure_ (i := 28) (N := some 50) (v := undef) (a' := ?_) (pT 29 1) rfl rfl (any_of HT_.out (by kernel_rfl)) (fun _ _ _ h => h) (Or.inr ⟨by rfl, rfl⟩) ?_ ?_
     rotate_left
     ·exact aP
     refine pure_ (i := 29) (N := some 51) (v := ?_) (a' := ?_) (pT 30 0) rfl rfl (any_of HT_.out (by kernel_rfl)) (fun _ _ _ h => h) (Or.inl ⟨by rfl, ?_⟩) ?_ ?_
     rotate_left
     ·intro w'
      go_simp
      with_reducible rfl
     rotate_left
     ·exact aP
     refine done_ (done_of HT_.out (by kernel_rfl)) ?_
     try go_wp2
     go_meet
     case rel => exact ⟨_, (true), eF, H', ⟨by have := HK1.out;first | omega | exact Nat.le_refl _⟩, ⟨by exact kP BK160.out⟩, ⟨by exact bB⟩⟩
    replace c13 := Bool.eq_false_iff.mpr c13
    subst c13
    rw [if_neg (show ¬ (false = true) by decide)] at H
    by_cases c15 : 0 ≤ a3
    rotate_left
    ·rw [if_neg c15] at H
     exact absurd H (by simp)
    rw [if_pos c15] at H
    have c15b0 : decide (0 ≤ a3) = true := decide_eq_true c15
    clear c15
    by_cases c16 : a3 < (l1.length : Int)
    rotate_left
    ·rw [if_neg c16] at H
     exact absurd H (by simp)
    rw [if_pos c16] at H
    have c16b0 : decide (a3 < (l1.length : Int)) = true := decide_eq_true c16
    clear c16
    by_cases c17 : (rd l2 x11_1) = (rd l1 a3)
    ·rw [if_pos c17] at H
     have c17b0 : ((rd l2 x11_1) == (rd l1 a3)) = true := beq_iff_eq.mpr c17
     have c17b1 : ((rd l2 x11_1) != (rd l1 a3)) = false := bne_eq_false_iff_eq.mpr c17
     clear c17
     have H' := Aside0.mk H
     clear H
     try go_wp2
     have n0_ := aM (blk_drew BK160.out)
     have n1_ := aM (below_drew1 HB.out)
     clear BK160
     clear HB
     have BK160 := n0_
     have HB := n1_
     clear n0_ n1_
     have p161 : 0 ≤ (x11_1 : Int) := oA
     have q161 : x11_1 < (l2.length : Int) := oA
     obtain ⟨ad161, e161, hx161_0⟩ := Kd.at_int HR2.out x11_1 p161 q161
     have hw161_0 := hx161_0
     cases e161
     replace hx161_0 := (HB.out.cell (World.block_lt_of_cell? w _ hx161_0)).trans hx161_0
     replace p161 := eq_true p161
     replace q161 := eq_true q161
     have p163 : 0 ≤ (x11_1 : Int) := oA
     have q163 : x11_1 < (l2.length : Int) := oA
     obtain ⟨ad163, e163, hx163_0⟩ := Kd.at_int HR2.out x11_1 p163 q163
     have hw163_0 := hx163_0
     obtain rfl : ad161 = ad163 := (by injection e163)
     replace hx163_0 := (HB.out.cell (World.block_lt_of_cell? w _ hx163_0)).trans hx163_0
     replace p163 := eq_true p163
     replace q163 := eq_true q163
     have p164 : 0 ≤ (a3 : Int) := oA
     have q164 : a3 < (l1.length : Int) := oA
     obtain ⟨ad164, e164, hx164_0⟩ := Kd.at_int HR1.out a3 p164 q164
     have hw164_0 := hx164_0
     cases e164
     replace hx164_0 := (HB.out.cell (World.block_lt_of_cell? w _ hx164_0)).trans hx164_0
     replace p164 := eq_true p164
     replace q164 := eq_true q164
     refine start_ (n := 30) (S := fun w' => w'.cell? (ad161.add (x11_1).toNat) = some (.int .i64 (rd l2 x11_1)) ∧ w'.cell? (ad161.add (x11_1).toNat) = some (.int .i64 (rd l2 x11_1)) ∧ w'.cell? (ad164.add (a3).toNat) = some (.int .i64 (rd l1 a3))) (ds := []) (pT 0 30) (by kernel_rfl) rfl rfl ⟨((HB.out.cell (World.block_lt_of_cell? w _ hw161_0)).trans hw161_0), ((HB.out.cell (World.block_lt_of_cell? w _ hw163_0)).trans hw163_0), ((HB.out.cell (World.block_lt_of_cell? w _ hw164_0)).trans hw164_0)⟩ (fun hHeld => ?_);refine with_tabW spec_l10Matches.tab6 spec_l10Matches.bits6 (fun HT_ HW_ => ?_)
     generalize wr.drew = w18 at BK160 HB hx161_0 hx163_0 hx164_0 hHeld ⊢
     refine pure_ (i := 0) (N := some 22) (v := ?_) (a' := ?_) (pT 1 29) rfl rfl (any_of HT_.out (by kernel_rfl)) (fun _ _ _ h => h) (Or.inl ⟨by rfl, ?_⟩) ?_ ?_
     rotate_left
     ·intro w'
      go_simp
      with_reducible rfl
     rotate_left
     ·exact aP
     refine pure_ (i := 1) (N := some 23) (v := ?_) (a' := ?_) (pT 2 28) rfl rfl (any_of HT_.out (by kernel_rfl)) (fun _ _ _ h => h) (Or.inl ⟨by rfl, ?_⟩) ?_ ?_
     rotate_left
     ·intro w'
      go_simp
      with_reducible rfl
     rotate_left
     ·exact aP
     refine pure_ (i := 2) (N := some 24) (v := ?_) (a' := ?_) (pT 3 27) rfl rfl (any_of HT_.out (by kernel_rfl)) (fun _ _ _ h => h) (Or.inl ⟨by rfl, ?_⟩) ?_ ?_
     rotate_left
     ·intro w'
      go_simp
      with_reducible rfl
     rotate_left
     ·exact aP
     refine pure_ (i := 3) (N := some 25) (v := ?_) (a' := ?_) (pT 4 26) rfl rfl (any_of HT_.out (by kernel_rfl)) (fun _ _ _ h => h) (Or.inl ⟨by rfl, ?_⟩) ?_ ?_
     rotate_left
     ·intro w'
      go_simp
      with_reducible rfl
     rotate_left
     ·exact aP
     refine take_ (i := 4) (N := some 26) (v := ?_) (a' := ?_) (pT 5 25) rfl rfl (take_ofW HT_.out HW_.out (by kernel_rfl)) (fun _ _ _ h => h) (Or.inl ⟨by rfl, ?_⟩) hHeld ?_ ?_
     rotate_left
     ·rintro w' ⟨s0, s1, s2⟩
      go_simp
      with_reducible rfl
     rotate_left
     ·exact aP
     refine one_ (i := 5) (N := some 27) (pT 6 24) rfl rfl (one_of HT_.out (by kernel_rfl)) (by decide) (fun K hK => ?_)
     refine goes_ Tryd.func43 (by kernel_rfl) rfl #[.slice A4 l4.length c4, .int .i64 (rd l2 x11_1)] (by rfl) rfl rfl mM ?_
     with_reducible refine (spec_l1Has.calls k1 _ _ l4 (rd l2 x11_1) false _ ?side1 ?side2 A12.out).mono ?_
     (case side1 => exact cP (Kd.C_below HR4.out HB.out))
     (case side2 => exact HC4.out)
     rintro e w' ⟨rfl, ⟨nd, rfl⟩⟩
     refine ⟨_, rfl, ?_⟩
     refine hK.out _ _ ⟨((HB.out.cell (World.block_lt_of_cell? w _ hw161_0)).trans hw161_0), ((HB.out.cell (World.block_lt_of_cell? w _ hw163_0)).trans hw163_0), ((HB.out.cell (World.block_lt_of_cell? w _ hw164_0)).trans hw164_0)⟩ (fun hHeld => ?_)
     clear hK K
     refine norm_ (a' := ?_) ?_ ?_
     rotate_left
     ·show Act.put _ (some 27) _ = _
      simp only [Act.put, List.setIfInBounds_toArray, List.set_cons_zero, List.set_cons_succ, i64_w, i32_w]
      rfl
     refine pure_ (i := 6) (N := some 28) (v := ?_) (a' := ?_) (pT 7 23) rfl rfl (any_of HT_.out (by kernel_rfl)) (fun _ _ _ h => h) (Or.inl ⟨by rfl, ?_⟩) ?_ ?_
     rotate_left
     ·intro w'
      go_simp
      with_reducible rfl
     rotate_left
     ·exact aP
     refine pure_ (i := 7) (N := some 29) (v := ?_) (a' := ?_) (pT 8 22) rfl rfl (any_of HT_.out (by kernel_rfl)) (fun _ _ _ h => h) (Or.inl ⟨by rfl, ?_⟩) ?_ ?_
     rotate_left
     ·intro w'
      go_simp
      with_reducible rfl
     rotate_left
     ·exact aP
     refine pure_ (i := 8) (N := some 30) (v := ?_) (a' := ?_) (pT 9 21) rfl rfl (any_of HT_.out (by kernel_rfl)) (fun _ _ _ h => h) (Or.inl ⟨by rfl, ?_⟩) ?_ ?_
     rotate_left
     ·intro w'
      go_simp
      with_reducible rfl
     rotate_left
     ·exact aP
     refine pure_ (i := 9) (N := some 31) (v := ?_) (a' := ?_) (pT 10 20) rfl rfl (any_of HT_.out (by kernel_rfl)) (fun _ _ _ h => h) (Or.inl ⟨by rfl, ?_⟩) ?_ ?_
     rotate_left
     ·intro w'
      go_simp
      with_reducible rfl
     rotate_left
     ·exact aP
     refine pure_ (i := 11) (N := some 33) (v := ?_) (a' := ?_) #[true,true,true,true,true,true,true,true,true,true,false,true,false,false,false,false,false,false,false,false,false,false,false,false,false,false,false,false,false,false] rfl rfl (any_of HT_.out (by kernel_rfl)) (fun _ _ _ h => h) (Or.inl ⟨by rfl, ?_⟩) ?_ ?_
     rotate_left
     ·intro w'
      go_simp
      with_reducible rfl
     rotate_left
     ·exact aP
     refine pure_ (i := 12) (N := some 34) (v := ?_) (a' := ?_) #[true,true,true,true,true,true,true,true,true,true,false,true,true,false,false,false,false,false,false,false,false,false,false,false,false,false,false,false,false,false] rfl rfl (any_of HT_.out (by kernel_rfl)) (fun _ _ _ h => h) (Or.inl ⟨by rfl, ?_⟩) ?_ ?_
     rotate_left
     ·intro w'
      go_simp
      with_reducible rfl
     rotate_left
     ·exact aP
     refine pure_ (i := 13) (N := some 35) (v := ?_) (a' := ?_) #[true,true,true,true,true,true,true,true,true,true,false,true,true,true,false,false,false,false,false,false,false,false,false,false,false,false,false,false,false,false] rfl rfl (any_of HT_.out (by kernel_rfl)) (fun _ _ _ h => h) (Or.inl ⟨by rfl, ?_⟩) ?_ ?_
     rotate_left
     ·intro w'
      go_simp
      with_reducible rfl
     rotate_left
     ·exact aP
     refine take_ (i := 10) (N := some 32) (v := ?_) (a' := ?_) (pT 14 16) rfl rfl (take_ofW HT_.out HW_.out (by kernel_rfl)) (fun _ _ _ h => h) (Or.inl ⟨by rfl, ?_⟩) hHeld ?_ ?_
     rotate_left
     ·rintro w' ⟨s0, s1, s2⟩
      go_simp
      with_reducible rfl
     rotate_left
     ·exact aP
     refine take_ (i := 14) (N := some 36) (v := ?_) (a' := ?_) (pT 15 15) rfl rfl (take_ofW HT_.out HW_.out (by kernel_rfl)) (fun _ _ _ h => h) (Or.inl ⟨by rfl, ?_⟩) hHeld ?_ ?_
     rotate_left
     ·rintro w' ⟨s0, s1, s2⟩
      go_simp
      with_reducible rfl
     rotate_left
     ·exact aP
     refine pure_ (i := 15) (N := some 37) (v := ?_) (a' := ?_) (pT 16 14) rfl rfl (any_of HT_.out (by kernel_rfl)) (fun _ _ _ h => h) (Or.inl ⟨by rfl, ?_⟩) ?_ ?_
     rotate_left
     ·intro w'
      go_simp
      with_reducible rfl
     rotate_left
     ·exact aP
     refine pure_ (i := 16) (N := some 38) (v := ?_) (a' := ?_) (pT 17 13) rfl rfl (any_of HT_.out (by kernel_rfl)) (fun _ _ _ h => h) (Or.inl ⟨by rfl, ?_⟩) ?_ ?_
     rotate_left
     ·intro w'
      go_simp
      with_reducible rfl
     rotate_left
     ·exact aP
     refine pure_ (i := 17) (N := some 39) (v := undef) (a' := ?_) (pT 18 12) rfl rfl (any_of HT_.out (by kernel_rfl)) (fun _ _ _ h => h) (Or.inr ⟨by rfl, rfl⟩) ?_ ?_
     rotate_left
     ·exact aP
     refine pure_ (i := 18) (N := some 40) (v := undef) (a' := ?_) (pT 19 11) rfl rfl (any_of HT_.out (by kernel_rfl)) (fun _ _ _ h => h) (Or.inr ⟨by rfl, rfl⟩) ?_ ?_
     rotate_left
     ·exact aP
     refine pure_ (i := 19) (N := some 41) (v := undef) (a' := ?_) (pT 20 10) rfl rfl (any_of HT_.out (by kernel_rfl)) (fun _ _ _ h => h) (Or.inr ⟨by rfl, rfl⟩) ?_ ?_
     rotate_left
     ·exact aP
     refine pure_ (i := 20) (N := some 42) (v := undef) (a' := ?_) (pT 21 9) rfl rfl (any_of HT_.out (by kernel_rfl)) (fun _ _ _ h => h) (Or.inr ⟨by rfl, rfl⟩) ?_ ?_
     rotate_left
     ·exact aP
     refine pure_ (i := 21) (N := some 43) (v := undef) (a' := ?_) (pT 22 8) rfl rfl (any_of HT_.out (by kernel_rfl)) (fun _ _ _ h => h) (Or.inr ⟨by rfl, rfl⟩) ?_ ?_
     rotate_left
     ·exact aP
     refine pure_ (i := 22) (N := some 44) (v := undef) (a' := ?_) (pT 23 7) rfl rfl (any_of HT_.out (by kernel_rfl)) (fun _ _ _ h => h) (Or.inr ⟨by rfl, rfl⟩) ?_ ?_
     rotate_left
     ·exact aP
     refine pure_ (i := 23) (N := some 45) (v := undef) (a' := ?_) (pT 24 6) rfl rfl (any_of HT_.out (by kernel_rfl)) (fun _ _ _ h => h) (Or.inr ⟨by rfl, rfl⟩) ?_ ?_
     rotate_left
     ·exact aP
     refine pure_ (i := 24) (N := some 46) (v := undef) (a' := ?_) (pT 25 5) rfl rfl (any_of HT_.out (by kernel_rfl)) (fun _ _ _ h => h) (Or.inr ⟨by rfl, rfl⟩) ?_ ?_
     rotate_left
     ·exact aP
     refine pure_ (i := 25) (N := some 47) (v := undef) (a' := ?_) (pT 26 4) rfl rfl (any_of HT_.out (by kernel_rfl)) (fun _ _ _ h => h) (Or.inr ⟨by rfl, rfl⟩) ?_ ?_
     rotate_left
     ·exact aP
     refine pure_ (i := 26) (N := some 48) (v := undef) (a' := ?_) (pT 27 3) rfl rfl (any_of HT_.out (by kernel_rfl)) (fun _ _ _ h => h) (Or.inr ⟨by rfl, rfl⟩) ?_ ?_
     rotate_left
     ·exact aP
     refine pure_ (i := 27) (N := some 49) (v := undef) (a' := ?_) (pT 28 2) rfl rfl (any_of HT_.out (by kernel_rfl)) (fun _ _ _ h => h) (Or.inr ⟨by rfl, rfl⟩) ?_ ?_
     rotate_left
     ·exact aP
     refine pure_ (i := 28) (N := some 50) (v := ?_) (a' := ?_) (pT 29 1) rfl rfl (any_of HT_.out (by kernel_rfl)) (fun _ _ _ h => h) (Or.inl ⟨by rfl, ?_⟩) ?_ ?_
     rotate_left
     ·intro w'
      go_simp
      with_reducible rfl
     rotate_left
     ·exact aP
     refine pure_ (i := 29) (N := some 51) (v := ?_) (a' := ?_) (pT 30 0) rfl rfl (any_of HT_.out (by kernel_rfl)) (fun _ _ _ h => h) (Or.inl ⟨by rfl, ?_⟩) ?_ ?_
     rotate_left
     ·intro w'
      go_simp
      with_reducible rfl
     rotate_left
     ·exact aP
     refine done_ (done_of HT_.out (by kernel_rfl)) ?_
     try go_wp2
     go_meet
     case rel => exact ⟨_, (false), eF, H', ⟨by have := HK1.out;first | omega | exact Nat.le_refl _⟩, ⟨by exact kP BK160.out⟩, ⟨by exact bB⟩⟩
    rw [if_neg c17] at H
    have c17b0 : ((rd l2 x11_1) == (rd l1 a3)) = false := beq_eq_false_iff_ne.mpr c17
    have c17b1 : ((rd l2 x11_1) != (rd l1 a3)) = true := bne_iff_ne.mpr c17
    replace H := Option.bind_eq_some_iff.mp H
    obtain ⟨t167, A190, H⟩ := H
    try dsimp only at H
    have A19 := Aside0.mk A190
    clear A190
    have H' := Aside0.mk H
    clear H
    try go_wp2
    have n0_ := aM (blk_drew BK160.out)
    have n1_ := aM (below_drew1 HB.out)
    clear BK160
    clear HB
    have BK160 := n0_
    have HB := n1_
    clear n0_ n1_
    have p161 : 0 ≤ (x11_1 : Int) := oA
    have q161 : x11_1 < (l2.length : Int) := oA
    obtain ⟨ad161, e161, hx161_0⟩ := Kd.at_int HR2.out x11_1 p161 q161
    have hw161_0 := hx161_0
    cases e161
    replace hx161_0 := (HB.out.cell (World.block_lt_of_cell? w _ hx161_0)).trans hx161_0
    replace p161 := eq_true p161
    replace q161 := eq_true q161
    have p163 : 0 ≤ (x11_1 : Int) := oA
    have q163 : x11_1 < (l2.length : Int) := oA
    obtain ⟨ad163, e163, hx163_0⟩ := Kd.at_int HR2.out x11_1 p163 q163
    have hw163_0 := hx163_0
    obtain rfl : ad161 = ad163 := (by injection e163)
    replace hx163_0 := (HB.out.cell (World.block_lt_of_cell? w _ hx163_0)).trans hx163_0
    replace p163 := eq_true p163
    replace q163 := eq_true q163
    have p164 : 0 ≤ (a3 : Int) := oA
    have q164 : a3 < (l1.length : Int) := oA
    obtain ⟨ad164, e164, hx164_0⟩ := Kd.at_int HR1.out a3 p164 q164
    have hw164_0 := hx164_0
    cases e164
    replace hx164_0 := (HB.out.cell (World.block_lt_of_cell? w _ hx164_0)).trans hx164_0
    replace p164 := eq_true p164
    replace q164 := eq_true q164
    have p165 : 0 ≤ (a3 : Int) := oA
    have q165 : a3 < (l1.length : Int) := oA
    obtain ⟨ad165, e165, hx165_0⟩ := Kd.at_int HR1.out a3 p165 q165
    have hw165_0 := hx165_0
    obtain rfl : ad164 = ad165 := (by injection e165)
    replace hx165_0 := (HB.out.cell (World.block_lt_of_cell? w _ hx165_0)).trans hx165_0
    replace p165 := eq_true p165
    replace q165 := eq_true q165
    have p166 : 0 ≤ (x11_1 : Int) := oA
    have q166 : x11_1 < (l2.length : Int) := oA
    obtain ⟨ad166, e166, hx166_0⟩ := Kd.at_int HR2.out x11_1 p166 q166
    have hw166_0 := hx166_0
    obtain rfl : ad161 = ad166 := (by injection e166)
    replace hx166_0 := (HB.out.cell (World.block_lt_of_cell? w _ hx166_0)).trans hx166_0
    replace p166 := eq_true p166
    replace q166 := eq_true q166
    refine start_ (n := 30) (S := fun w' => w'.cell? ⟨gb160, 0, none⟩ = some (.int .i64 a0_0) ∧ w'.cell? ⟨gb160, 1, none⟩ = some (.slice A0_1 l0_1.length c0_1) ∧ w'.cell? (ad161.add (x11_1).toNat) = some (.int .i64 (rd l2 x11_1)) ∧ w'.cell? (ad161.add (x11_1).toNat) = some (.int .i64 (rd l2 x11_1)) ∧ w'.cell? (ad164.add (a3).toNat) = some (.int .i64 (rd l1 a3)) ∧ w'.cell? (ad164.add (a3).toNat) = some (.int .i64 (rd l1 a3)) ∧ w'.cell? (ad161.add (x11_1).toNat) = some (.int .i64 (rd l2 x11_1))) (ds := []) (pT 0 30) (by kernel_rfl) rfl rfl ⟨(blk_cell BK160.out 0).trans rfl, (blk_cell BK160.out 1).trans rfl, ((HB.out.cell (World.block_lt_of_cell? w _ hw161_0)).trans hw161_0), ((HB.out.cell (World.block_lt_of_cell? w _ hw163_0)).trans hw163_0), ((HB.out.cell (World.block_lt_of_cell? w _ hw164_0)).trans hw164_0), ((HB.out.cell (World.block_lt_of_cell? w _ hw165_0)).trans hw165_0), ((HB.out.cell (World.block_lt_of_cell? w _ hw166_0)).trans hw166_0)⟩ (fun hHeld => ?_);refine with_tabW spec_l10Matches.tab6 spec_l10Matches.bits6 (fun HT_ HW_ => ?_)
    generalize wr.drew = w20 at BK160 HB hx161_0 hx163_0 hx164_0 hx165_0 hx166_0 hHeld ⊢
    refine pure_ (i := 0) (N := some 22) (v := ?_) (a' := ?_) (pT 1 29) rfl rfl (any_of HT_.out (by kernel_rfl)) (fun _ _ _ h => h) (Or.inl ⟨by rfl, ?_⟩) ?_ ?_
    rotate_left
    ·intro w'
     go_simp
     with_reducible rfl
    rotate_left
    ·exact aP
    refine pure_ (i := 1) (N := some 23) (v := ?_) (a' := ?_) (pT 2 28) rfl rfl (any_of HT_.out (by kernel_rfl)) (fun _ _ _ h => h) (Or.inl ⟨by rfl, ?_⟩) ?_ ?_
    rotate_left
    ·intro w'
     go_simp
     with_reducible rfl
    rotate_left
    ·exact aP
    refine pure_ (i := 2) (N := some 24) (v := ?_) (a' := ?_) (pT 3 27) rfl rfl (any_of HT_.out (by kernel_rfl)) (fun _ _ _ h => h) (Or.inl ⟨by rfl, ?_⟩) ?_ ?_
    rotate_left
    ·intro w'
     go_simp
     with_reducible rfl
    rotate_left
    ·exact aP
    refine pure_ (i := 3) (N := some 25) (v := ?_) (a' := ?_) (pT 4 26) rfl rfl (any_of HT_.out (by kernel_rfl)) (fun _ _ _ h => h) (Or.inl ⟨by rfl, ?_⟩) ?_ ?_
    rotate_left
    ·intro w'
     go_simp
     with_reducible rfl
    rotate_left
    ·exact aP
    refine take_ (i := 4) (N := some 26) (v := ?_) (a' := ?_) (pT 5 25) rfl rfl (take_ofW HT_.out HW_.out (by kernel_rfl)) (fun _ _ _ h => h) (Or.inl ⟨by rfl, ?_⟩) hHeld ?_ ?_
    rotate_left
    ·rintro w' ⟨s0, s1, s2, s3, s4, s5, s6⟩
     go_simp
     with_reducible rfl
    rotate_left
    ·exact aP
    refine one_ (i := 5) (N := some 27) (pT 6 24) rfl rfl (one_of HT_.out (by kernel_rfl)) (by decide) (fun K hK => ?_)
    refine goes_ Tryd.func43 (by kernel_rfl) rfl #[.slice A4 l4.length c4, .int .i64 (rd l2 x11_1)] (by rfl) rfl rfl mM ?_
    with_reducible refine (spec_l1Has.calls k1 _ _ l4 (rd l2 x11_1) false _ ?side1 ?side2 A12.out).mono ?_
    (case side1 => exact cP (Kd.C_below HR4.out HB.out))
    (case side2 => exact HC4.out)
    rintro e w' ⟨rfl, ⟨nd, rfl⟩⟩
    refine ⟨_, rfl, ?_⟩
    refine hK.out _ _ ⟨(blk_cell BK160.out 0).trans rfl, (blk_cell BK160.out 1).trans rfl, ((HB.out.cell (World.block_lt_of_cell? w _ hw161_0)).trans hw161_0), ((HB.out.cell (World.block_lt_of_cell? w _ hw163_0)).trans hw163_0), ((HB.out.cell (World.block_lt_of_cell? w _ hw164_0)).trans hw164_0), ((HB.out.cell (World.block_lt_of_cell? w _ hw165_0)).trans hw165_0), ((HB.out.cell (World.block_lt_of_cell? w _ hw166_0)).trans hw166_0)⟩ (fun hHeld => ?_)
    clear hK K
    refine norm_ (a' := ?_) ?_ ?_
    rotate_left
    ·show Act.put _ (some 27) _ = _
     simp only [Act.put, List.setIfInBounds_toArray, List.set_cons_zero, List.set_cons_succ, i64_w, i32_w]
     rfl
    refine pure_ (i := 6) (N := some 28) (v := ?_) (a' := ?_) (pT 7 23) rfl rfl (any_of HT_.out (by kernel_rfl)) (fun _ _ _ h => h) (Or.inl ⟨by rfl, ?_⟩) ?_ ?_
    rotate_left
    ·intro w'
     go_simp
     with_reducible rfl
    rotate_left
    ·exact aP
    refine pure_ (i := 7) (N := some 29) (v := ?_) (a' := ?_) (pT 8 22) rfl rfl (any_of HT_.out (by kernel_rfl)) (fun _ _ _ h => h) (Or.inl ⟨by rfl, ?_⟩) ?_ ?_
    rotate_left
    ·intro w'
     go_simp
     with_reducible rfl
    rotate_left
    ·exact aP
    refine pure_ (i := 8) (N := some 30) (v := ?_) (a' := ?_) (pT 9 21) rfl rfl (any_of HT_.out (by kernel_rfl)) (fun _ _ _ h => h) (Or.inl ⟨by rfl, ?_⟩) ?_ ?_
    rotate_left
    ·intro w'
     go_simp
     with_reducible rfl
    rotate_left
    ·exact aP
    refine pure_ (i := 9) (N := some 31) (v := ?_) (a' := ?_) (pT 10 20) rfl rfl (any_of HT_.out (by kernel_rfl)) (fun _ _ _ h => h) (Or.inl ⟨by rfl, ?_⟩) ?_ ?_
    rotate_left
    ·intro w'
     go_simp
     with_reducible rfl
    rotate_left
    ·exact aP
    refine pure_ (i := 11) (N := some 33) (v := ?_) (a' := ?_) #[true,true,true,true,true,true,true,true,true,true,false,true,false,false,false,false,false,false,false,false,false,false,false,false,false,false,false,false,false,false] rfl rfl (any_of HT_.out (by kernel_rfl)) (fun _ _ _ h => h) (Or.inl ⟨by rfl, ?_⟩) ?_ ?_
    rotate_left
    ·intro w'
     go_simp
     with_reducible rfl
    rotate_left
    ·exact aP
    refine pure_ (i := 12) (N := some 34) (v := ?_) (a' := ?_) #[true,true,true,true,true,true,true,true,true,true,false,true,true,false,false,false,false,false,false,false,false,false,false,false,false,false,false,false,false,false] rfl rfl (any_of HT_.out (by kernel_rfl)) (fun _ _ _ h => h) (Or.inl ⟨by rfl, ?_⟩) ?_ ?_
    rotate_left
    ·intro w'
     go_simp
     with_reducible rfl
    rotate_left
    ·exact aP
    refine pure_ (i := 13) (N := some 35) (v := ?_) (a' := ?_) #[true,true,true,true,true,true,true,true,true,true,false,true,true,true,false,false,false,false,false,false,false,false,false,false,false,false,false,false,false,false] rfl rfl (any_of HT_.out (by kernel_rfl)) (fun _ _ _ h => h) (Or.inl ⟨by rfl, ?_⟩) ?_ ?_
    rotate_left
    ·intro w'
     go_simp
     with_reducible rfl
    rotate_left
    ·exact aP
    refine take_ (i := 10) (N := some 32) (v := ?_) (a' := ?_) (pT 14 16) rfl rfl (take_ofW HT_.out HW_.out (by kernel_rfl)) (fun _ _ _ h => h) (Or.inl ⟨by rfl, ?_⟩) hHeld ?_ ?_
    rotate_left
    ·rintro w' ⟨s0, s1, s2, s3, s4, s5, s6⟩
     go_simp
     with_reducible rfl
    rotate_left
    ·exact aP
    refine take_ (i := 14) (N := some 36) (v := ?_) (a' := ?_) (pT 15 15) rfl rfl (take_ofW HT_.out HW_.out (by kernel_rfl)) (fun _ _ _ h => h) (Or.inl ⟨by rfl, ?_⟩) hHeld ?_ ?_
    rotate_left
    ·rintro w' ⟨s0, s1, s2, s3, s4, s5, s6⟩
     go_simp
     with_reducible rfl
    rotate_left
    ·exact aP
    refine pure_ (i := 15) (N := some 37) (v := ?_) (a' := ?_) (pT 16 14) rfl rfl (any_of HT_.out (by kernel_rfl)) (fun _ _ _ h => h) (Or.inl ⟨by rfl, ?_⟩) ?_ ?_
    rotate_left
    ·intro w'
     go_simp
     with_reducible rfl
    rotate_left
    ·exact aP
    refine pure_ (i := 16) (N := some 38) (v := ?_) (a' := ?_) (pT 17 13) rfl rfl (any_of HT_.out (by kernel_rfl)) (fun _ _ _ h => h) (Or.inl ⟨by rfl, ?_⟩) ?_ ?_
    rotate_left
    ·intro w'
     go_simp
     with_reducible rfl
    rotate_left
    ·exact aP
    refine pure_ (i := 18) (N := some 40) (v := ?_) (a' := ?_) #[true,true,true,true,true,true,true,true,true,true,true,true,true,true,true,true,true,false,true,false,false,false,false,false,false,false,false,false,false,false] rfl rfl (any_of HT_.out (by kernel_rfl)) (fun _ _ _ h => h) (Or.inl ⟨by rfl, ?_⟩) ?_ ?_
    rotate_left
    ·intro w'
     go_simp
     with_reducible rfl
    rotate_left
    ·exact aP
    refine pure_ (i := 19) (N := some 41) (v := ?_) (a' := ?_) #[true,true,true,true,true,true,true,true,true,true,true,true,true,true,true,true,true,false,true,true,false,false,false,false,false,false,false,false,false,false] rfl rfl (any_of HT_.out (by kernel_rfl)) (fun _ _ _ h => h) (Or.inl ⟨by rfl, ?_⟩) ?_ ?_
    rotate_left
    ·intro w'
     go_simp
     with_reducible rfl
    rotate_left
    ·exact aP
    refine pure_ (i := 20) (N := some 42) (v := ?_) (a' := ?_) #[true,true,true,true,true,true,true,true,true,true,true,true,true,true,true,true,true,false,true,true,true,false,false,false,false,false,false,false,false,false] rfl rfl (any_of HT_.out (by kernel_rfl)) (fun _ _ _ h => h) (Or.inl ⟨by rfl, ?_⟩) ?_ ?_
    rotate_left
    ·intro w'
     go_simp
     with_reducible rfl
    rotate_left
    ·exact aP
    refine pure_ (i := 22) (N := some 44) (v := ?_) (a' := ?_) #[true,true,true,true,true,true,true,true,true,true,true,true,true,true,true,true,true,false,true,true,true,false,true,false,false,false,false,false,false,false] rfl rfl (any_of HT_.out (by kernel_rfl)) (fun _ _ _ h => h) (Or.inl ⟨by rfl, ?_⟩) ?_ ?_
    rotate_left
    ·intro w'
     go_simp
     with_reducible rfl
    rotate_left
    ·exact aP
    refine pure_ (i := 23) (N := some 45) (v := ?_) (a' := ?_) #[true,true,true,true,true,true,true,true,true,true,true,true,true,true,true,true,true,false,true,true,true,false,true,true,false,false,false,false,false,false] rfl rfl (any_of HT_.out (by kernel_rfl)) (fun _ _ _ h => h) (Or.inl ⟨by rfl, ?_⟩) ?_ ?_
    rotate_left
    ·intro w'
     go_simp
     with_reducible rfl
    rotate_left
    ·exact aP
    refine pure_ (i := 24) (N := some 46) (v := ?_) (a' := ?_) #[true,true,true,true,true,true,true,true,true,true,true,true,true,true,true,true,true,false,true,true,true,false,true,true,true,false,false,false,false,false] rfl rfl (any_of HT_.out (by kernel_rfl)) (fun _ _ _ h => h) (Or.inl ⟨by rfl, ?_⟩) ?_ ?_
    rotate_left
    ·intro w'
     go_simp
     with_reducible rfl
    rotate_left
    ·exact aP
    refine take_ (i := 17) (N := some 39) (v := ?_) (a' := ?_) #[true,true,true,true,true,true,true,true,true,true,true,true,true,true,true,true,true,true,true,true,true,false,true,true,true,false,false,false,false,false] rfl rfl (take_ofW HT_.out HW_.out (by kernel_rfl)) (fun _ _ _ h => h) (Or.inl ⟨by rfl, ?_⟩) hHeld ?_ ?_
    rotate_left
    ·rintro w' ⟨s0, s1, s2, s3, s4, s5, s6⟩
     go_simp
     with_reducible rfl
    rotate_left
    ·exact aP
    refine take_ (i := 21) (N := some 43) (v := ?_) (a' := ?_) (pT 25 5) rfl rfl (take_ofW HT_.out HW_.out (by kernel_rfl)) (fun _ _ _ h => h) (Or.inl ⟨by rfl, ?_⟩) hHeld ?_ ?_
    rotate_left
    ·rintro w' ⟨s0, s1, s2, s3, s4, s5, s6⟩
     go_simp
     with_reducible rfl
    rotate_left
    ·exact aP
    refine take_ (i := 25) (N := some 47) (v := ?_) (a' := ?_) (pT 26 4) rfl rfl (take_ofW HT_.out HW_.out (by kernel_rfl)) (fun _ _ _ h => h) (Or.inl ⟨by rfl, ?_⟩) hHeld ?_ ?_
    rotate_left
    ·rintro w' ⟨s0, s1, s2, s3, s4, s5, s6⟩
     go_simp
     with_reducible rfl
    rotate_left
    ·exact aP
    refine one_ (i := 26) (N := some 48) (pT 27 3) rfl rfl (one_of HT_.out (by kernel_rfl)) (by decide) (fun K hK => ?_)
    refine goes_ Tryd.func103 (by kernel_rfl) rfl #[.agg #[.int .i64 a0_0, .slice A0_1 l0_1.length c0_1], .int .i64 (rd l1 a3), .int .i64 (rd l2 x11_1)] (by rfl) rfl rfl mM ?_
    with_reducible refine (spec_l2Near.calls k1 a0_0 _ _ l0_1 (rd l1 a3) (rd l2 x11_1) t167 _ ?side1 ?side2 A19.out).mono ?_
    (case side1 => exact cP (Kd.C_below HR0_1.out (by repeat (first | (with_reducible first | exact HB.out | apply below_alloc | apply pw_below_drewN | apply below_drew1 | refine below_set ?_ GE160.out) | exact HB.out))))
    (case side2 => exact HC0_1.out)
    rintro e w21 ⟨rfl, hb⟩
    refine ⟨_, rfl, ?_⟩
    have n0_ := aM (kB hb BK160.out)
    have n1_ := aM (below_step (by exact bB) hb)
    clear BK160
    clear HB
    have BK160 := n0_
    have HB := n1_
    clear n0_ n1_
    (try clear hb)
    (try clear hb2)
    (try clear hk)
    (try clear hi)
    refine hK.out _ _ ⟨(blk_cell BK160.out 0).trans rfl, (blk_cell BK160.out 1).trans rfl, ((HB.out.cell (World.block_lt_of_cell? w _ hw161_0)).trans hw161_0), ((HB.out.cell (World.block_lt_of_cell? w _ hw163_0)).trans hw163_0), ((HB.out.cell (World.block_lt_of_cell? w _ hw164_0)).trans hw164_0), ((HB.out.cell (World.block_lt_of_cell? w _ hw165_0)).trans hw165_0), ((HB.out.cell (World.block_lt_of_cell? w _ hw166_0)).trans hw166_0)⟩ (fun hHeld => ?_)
    clear hK K
    refine norm_ (a' := ?_) ?_ ?_
    rotate_left
    ·show Act.put _ (some 48) _ = _
     simp only [Act.put, List.setIfInBounds_toArray, List.set_cons_zero, List.set_cons_succ, i64_w, i32_w]
     rfl
    refine pure_ (i := 27) (N := some 49) (v := ?_) (a' := ?_) (pT 28 2) rfl rfl (any_of HT_.out (by kernel_rfl)) (fun _ _ _ h => h) (Or.inl ⟨by rfl, ?_⟩) ?_ ?_
    rotate_left
    ·intro w'
     go_simp
     with_reducible rfl
    rotate_left
    ·exact aP
    refine pure_ (i := 28) (N := some 50) (v := ?_) (a' := ?_) (pT 29 1) rfl rfl (any_of HT_.out (by kernel_rfl)) (fun _ _ _ h => h) (Or.inl ⟨by rfl, ?_⟩) ?_ ?_
    rotate_left
    ·intro w'
     go_simp
     with_reducible rfl
    rotate_left
    ·exact aP
    refine pure_ (i := 29) (N := some 51) (v := ?_) (a' := ?_) (pT 30 0) rfl rfl (any_of HT_.out (by kernel_rfl)) (fun _ _ _ h => h) (Or.inl ⟨by rfl, ?_⟩) ?_ ?_
    rotate_left
    ·intro w'
     go_simp
     with_reducible rfl
    rotate_left
    ·exact aP
    refine done_ (done_of HT_.out (by kernel_rfl)) ?_
    try go_wp2
    go_meet
    case rel => exact ⟨_, (!t167), eF, H', ⟨by have := HK1.out;first | omega | exact Nat.le_refl _⟩, ⟨by exact kP BK160.out⟩, ⟨by exact bB⟩⟩
   case rest =>
    clear HC10
    try clear c1
    try clear p1
    try clear q1
    try clear hx1
    try clear p2
    try clear c4
    try clear c10
    try clear c11
    try clear c13
    try clear c15
    try clear c15b0
    try clear c16
    try clear c16b0
    try clear p16
    try clear q16
    try clear hx16
    try clear c17
    try clear c17b0
    try clear c17b1
    try clear hx161_0
    try clear hx163_0
    try clear hx164_0
    try clear hx165_0
    try clear hx166_0
    try clear p161
    try clear p163
    try clear p164
    try clear p165
    try clear p166
    try clear q161
    try clear q163
    try clear q164
    try clear q165
    try clear q166
    obtain ⟨kq, x51_9, rfl, HA, HJ9, BK160, HB⟩ := hcut
    cases kq with
    | zero => exact absurd HA.out (by simp [spec_l10Matches.j1])
    | succ kj9 =>
     have H := HA.out
     clear HA
     simp only [spec_l10Matches.j1] at H
     by_cases c22 : x51_9 = true
     ·subst c22
      rw [if_pos rfl] at H
      have H' := Aside0.mk H
      clear H
      go_wp2
      go_roundg kj9
      case measure => have := HK1.out;have := HJ9.out;omega
      case rel => exact ⟨(wrap64 (x11_1 + 1)), eF, H', ⟨by have := HK1.out;have := HJ9.out;omega⟩, ⟨by exact kP BK160.out⟩, ⟨by exact bB⟩⟩
     replace c22 := Bool.eq_false_iff.mpr c22
     subst c22
     rw [if_neg (show ¬ (false = true) by decide)] at H
     replace H := Option.bind_eq_some_iff.mp H
     obtain ⟨t168, A230, H⟩ := H
     try dsimp only at H
     have A23 := Aside0.mk A230
     clear A230
     by_cases c24 : 0 ≤ x11_1
     rotate_left
     ·rw [if_neg c24] at H
      exact absurd H (by simp)
     rw [if_pos c24] at H
     have c24b0 : decide (0 ≤ x11_1) = true := decide_eq_true c24
     clear c24
     by_cases c25 : x11_1 < (l2.length : Int)
     rotate_left
     ·rw [if_neg c25] at H
      exact absurd H (by simp)
     rw [if_pos c25] at H
     have c25b0 : decide (x11_1 < (l2.length : Int)) = true := decide_eq_true c25
     clear c25
     obtain ⟨y172, hy172⟩ : ∃ y_ : List Int, y_ = (([rd l2 x11_1] : List Int)) := ⟨_, rfl⟩
     replace H : (if t168.length + y172.length < 17592186044416 then ((spec_l10Matches.f kj9 a0_0 l0_1 l1 l2 (wrap64 (a3 + 1)) (t168 ++ y172)).bind fun t178 => (if t178 = true then (some true) else (spec_l10Matches.l0 kj9 l1 l2 a3 l4 (wrap64 (x11_1 + 1)) a0_0 l0_1))) else (none)) = some r := by first | (rw [hy172];with_reducible exact H) | (have H2_ := (Option.bind_some _ _).symm.trans H;rw [hy172];with_reducible exact H2_) | (have H2_ := (Option.bind_some _ _).symm.trans H;with_reducible exact H2_) | with_reducible exact H | (rw [hy172];exact H) | exact H
     have Ny172 := Aside0.mk hy172
     clear hy172
     by_cases c26 : t168.length + y172.length < 17592186044416
     rotate_left
     ·rw [if_neg c26] at H
      exact absurd H (by simp)
     rw [if_pos c26] at H
     have LMc26 := Aside0.mk c26
     clear c26
     obtain ⟨y175, hy175⟩ : ∃ y_ : List Int, y_ = (t168 ++ y172) := ⟨_, rfl⟩
     replace H : ((spec_l10Matches.f kj9 a0_0 l0_1 l1 l2 (wrap64 (a3 + 1)) y175).bind fun t178 => (if t178 = true then (some true) else (spec_l10Matches.l0 kj9 l1 l2 a3 l4 (wrap64 (x11_1 + 1)) a0_0 l0_1))) = some r := by first | (rw [hy175];with_reducible exact H) | (have H2_ := (Option.bind_some _ _).symm.trans H;rw [hy175];with_reducible exact H2_) | (have H2_ := (Option.bind_some _ _).symm.trans H;with_reducible exact H2_) | with_reducible exact H | (rw [hy175];exact H) | exact H
     have Ny175 := Aside0.mk hy175
     clear hy175
     replace H := Option.bind_eq_some_iff.mp H
     obtain ⟨t178, A270, H⟩ := H
     try dsimp only at H
     have A27 := Aside0.mk A270
     clear A270
     by_cases c28 : t178 = true
     ·subst c28
      rw [if_pos rfl] at H
      obtain rfl := Option.some.inj H
      try go_wp2
      have n0_ := aM (blk_drew BK160.out)
      have n1_ := aM (below_drew1 HB.out)
      clear BK160
      clear HB
      have BK160 := n0_
      have HB := n1_
      clear n0_ n1_
      have p171 : 0 ≤ (x11_1 : Int) := oA
      have q171 : x11_1 < (l2.length : Int) := oA
      obtain ⟨ad171, e171, hx171_0⟩ := Kd.at_int HR2.out x11_1 p171 q171
      have hw171_0 := hx171_0
      cases e171
      replace hx171_0 := (HB.out.cell (World.block_lt_of_cell? w _ hx171_0)).trans hx171_0
      replace p171 := eq_true p171
      replace q171 := eq_true q171
      refine start_ (n := 14) (S := fun w' => w'.cell? ⟨gb160, 0, none⟩ = some (.int .i64 a0_0) ∧ w'.cell? ⟨gb160, 1, none⟩ = some (.slice A0_1 l0_1.length c0_1) ∧ w'.cell? (ad171.add (x11_1).toNat) = some (.int .i64 (rd l2 x11_1))) (ds := []) (pT 0 14) (by kernel_rfl) rfl rfl ⟨(blk_cell BK160.out 0).trans rfl, (blk_cell BK160.out 1).trans rfl, ((HB.out.cell (World.block_lt_of_cell? w _ hw171_0)).trans hw171_0)⟩ (fun hHeld => ?_);refine with_tabW spec_l10Matches.tab7 spec_l10Matches.bits7 (fun HT_ HW_ => ?_)
      generalize wc.drew = w29 at BK160 HB hx171_0 hHeld ⊢
      refine pure_ (i := 1) (N := some 53) (v := ?_) (a' := ?_) #[false,true,false,false,false,false,false,false,false,false,false,false,false,false] rfl rfl (any_of HT_.out (by kernel_rfl)) (fun _ _ _ h => h) (Or.inl ⟨by rfl, ?_⟩) ?_ ?_
      rotate_left
      ·intro w'
       go_simp
       with_reducible rfl
      rotate_left
      ·exact aP
      refine pure_ (i := 2) (N := some 54) (v := ?_) (a' := ?_) #[false,true,true,false,false,false,false,false,false,false,false,false,false,false] rfl rfl (any_of HT_.out (by kernel_rfl)) (fun _ _ _ h => h) (Or.inl ⟨by rfl, ?_⟩) ?_ ?_
      rotate_left
      ·intro w'
       go_simp
       with_reducible rfl
      rotate_left
      ·exact aP
      refine pure_ (i := 3) (N := some 55) (v := ?_) (a' := ?_) #[false,true,true,true,false,false,false,false,false,false,false,false,false,false] rfl rfl (any_of HT_.out (by kernel_rfl)) (fun _ _ _ h => h) (Or.inl ⟨by rfl, ?_⟩) ?_ ?_
      rotate_left
      ·intro w'
       go_simp
       with_reducible rfl
      rotate_left
      ·exact aP
      refine pure_ (i := 4) (N := some 56) (v := ?_) (a' := ?_) #[false,true,true,true,true,false,false,false,false,false,false,false,false,false] rfl rfl (any_of HT_.out (by kernel_rfl)) (fun _ _ _ h => h) (Or.inl ⟨by rfl, ?_⟩) ?_ ?_
      rotate_left
      ·intro w'
       go_simp
       with_reducible rfl
      rotate_left
      ·exact aP
      refine pure_ (i := 5) (N := some 57) (v := ?_) (a' := ?_) #[false,true,true,true,true,true,false,false,false,false,false,false,false,false] rfl rfl (any_of HT_.out (by kernel_rfl)) (fun _ _ _ h => h) (Or.inl ⟨by rfl, ?_⟩) ?_ ?_
      rotate_left
      ·intro w'
       go_simp
       with_reducible rfl
      rotate_left
      ·exact aP
      refine pure_ (i := 7) (N := some 59) (v := ?_) (a' := ?_) #[false,true,true,true,true,true,false,true,false,false,false,false,false,false] rfl rfl (any_of HT_.out (by kernel_rfl)) (fun _ _ _ h => h) (Or.inl ⟨by rfl, ?_⟩) ?_ ?_
      rotate_left
      ·intro w'
       go_simp
       with_reducible rfl
      rotate_left
      ·exact aP
      refine pure_ (i := 8) (N := some 60) (v := ?_) (a' := ?_) #[false,true,true,true,true,true,false,true,true,false,false,false,false,false] rfl rfl (any_of HT_.out (by kernel_rfl)) (fun _ _ _ h => h) (Or.inl ⟨by rfl, ?_⟩) ?_ ?_
      rotate_left
      ·intro w'
       go_simp
       with_reducible rfl
      rotate_left
      ·exact aP
      refine pure_ (i := 9) (N := some 61) (v := ?_) (a' := ?_) #[false,true,true,true,true,true,false,true,true,true,false,false,false,false] rfl rfl (any_of HT_.out (by kernel_rfl)) (fun _ _ _ h => h) (Or.inl ⟨by rfl, ?_⟩) ?_ ?_
      rotate_left
      ·intro w'
       go_simp
       with_reducible rfl
      rotate_left
      ·exact aP
      refine take_ (i := 0) (N := some 52) (v := ?_) (a' := ?_) #[true,true,true,true,true,true,false,true,true,true,false,false,false,false] rfl rfl (take_ofW HT_.out HW_.out (by kernel_rfl)) (fun _ _ _ h => h) (Or.inl ⟨by rfl, ?_⟩) hHeld ?_ ?_
      rotate_left
      ·rintro w' ⟨s0, s1, s2⟩
       go_simp
       with_reducible rfl
      rotate_left
      ·exact aP
      refine take_ (i := 10) (N := some 62) (v := ?_) (a' := ?_) #[true,true,true,true,true,true,false,true,true,true,true,false,false,false] rfl rfl (take_ofW HT_.out HW_.out (by kernel_rfl)) (fun _ _ _ h => h) (Or.inl ⟨by rfl, ?_⟩) hHeld ?_ ?_
      rotate_left
      ·rintro w' ⟨s0, s1, s2⟩
       go_simp
       with_reducible rfl
      rotate_left
      ·exact aP
      refine join_ (σ := Value × Value) 2 (pT 12 2) (fun s_ => [(58, s_.1), (63, s_.2)]) (fun s_ w' => (w'.cell? ⟨gb160, 0, none⟩ = some (.int .i64 a0_0) ∧ w'.cell? ⟨gb160, 1, none⟩ = some (.slice A0_1 l0_1.length c0_1) ∧ w'.cell? (ad171.add (x11_1).toNat) = some (.int .i64 (rd l2 x11_1))) ∧ (Kd.R (Kd.int .i64) 3 w' w.heap.size (fun k_ => some k_ ≠ (s_.2 : Value).ownBlock) s_.1 t168) ∧ (Kd.R (Kd.int .i64) 3 w' w.heap.size (fun k_ => some k_ ≠ (s_.1 : Value).ownBlock) s_.2 y172) ∧ (w'.heap[gb160]? = some (.cells #[.int .i64 a0_0, .slice A0_1 l0_1.length c0_1] 29 (0, 0))) ∧ (Below w.heap.size w w')) ?_ ?_
      rotate_left
      ·intro hCont
       refine two_ (i := 6) (j := 11) (Ni := some 58) (Nj := some 63) (pT 11 3) #[true,true,true,true,true,true,false,true,true,true,true,true,false,false] rfl rfl rfl rfl (two_of HT_.out (by kernel_rfl)) (by decide) (by decide) (fun K hK => ?_) (fun K hK => ?_)
       ·skip
        refine goes_ Tryd.func52 (by kernel_rfl) rfl #[.slice A4 l4.length c4] (by rfl) rfl rfl mM ?_
        with_reducible refine (spec_l1Own.calls _ _ l4 t168 _ ?side1 ?side2 A23.out).mono ?_
        (case side1 => exact cP (Kd.C_below HR4.out HB.out))
        (case side2 => exact HC4.out)
        rintro e w30 ⟨v169, rfl, ho0, hb⟩
        refine ⟨_, rfl, ?_⟩
        have n0_ := aM (Kd.R_lower ho0 (below_size (by exact bB)))
        have n1_ := aM (kB hb BK160.out)
        have n2_ := aM (below_step (by exact bB) hb)
        clear BK160
        clear HB
        have HO170 := n0_
        have BK160 := n1_
        have HB := n2_
        clear n0_ n1_ n2_
        (try clear hb)
        (try clear hb2)
        (try clear hk)
        (try clear hi)
        (try clear ho0)
        refine hK.out _ _ ⟨(blk_cell BK160.out 0).trans rfl, (blk_cell BK160.out 1).trans rfl, ((HB.out.cell (World.block_lt_of_cell? w _ hw171_0)).trans hw171_0)⟩ (fun hHeld => ?_)
        clear hK K
        refine norm_ (a' := ?_) ?_ ?_
        rotate_left
        ·show Act.put _ (some 58) _ = _
         simp only [Act.put, List.setIfInBounds_toArray, List.set_cons_zero, List.set_cons_succ, i64_w, i32_w]
         rfl
        refine one_ (i := 11) (N := some 63) (pT 12 2) rfl rfl (one_of HT_.out (by kernel_rfl)) (by decide) (fun K hK => ?_)
        refine Kd.R_lit_step (Kd.int .i64) _ 3 ?hg (N := 63) ?hd (xs := ([rd l2 x11_1] : List Int)) (inner := [.int .i64 (rd l2 x11_1)]) (ok := fun _ => True) (okp := fun _ => True) ?hr ?hp (fun _ hk => hk) trivial (Below.refl _ _) (Nat.le_refl _) (by simp) ?_;(case hd => rfl);(case hg => rfl);(case hr => exact gS);(case hp => exact (Reps.one (show Kd.M (Kd.int .i64) _ _ _ (rd l2 x11_1) [.int .i64 (rd l2 x11_1)] from rfl) (Reps.none _ _)))
        intro v173 w31 ho32 hb hg_ hnew_
        clear hg_ hnew_
        (first | rw [← Ny172.out] at ho32 | (simp only [Int.reduceToNat] at ho32;rw [← Ny172.out] at ho32))
        have n0_ := aM (Kd.R_elder' (by exact rP HO170.out) (Kd.R_base ho32) hb)
        have n1_ := aM (Kd.R_lower (Kd.R_new' ho32 (Kd.R_lt (by exact rP HO170.out))) (below_size (by exact bB)))
        have n2_ := aM (kB hb BK160.out)
        have n3_ := aM (below_step (by exact bB) hb)
        clear HO170
        clear BK160
        clear HB
        have HO170 := n0_
        have HO174 := n1_
        have BK160 := n2_
        have HB := n3_
        clear n0_ n1_ n2_ n3_
        clear hb ho32
        refine hK.out _ _ ⟨(blk_cell BK160.out 0).trans rfl, (blk_cell BK160.out 1).trans rfl, ((HB.out.cell (World.block_lt_of_cell? w _ hw171_0)).trans hw171_0)⟩ (fun hHeld => ?_)
        clear hK K
        refine norm_ (a' := ?_) ?_ ?_
        rotate_left
        ·show Act.put _ (some 63) _ = _
         simp only [Act.put, List.setIfInBounds_toArray, List.set_cons_zero, List.set_cons_succ, i64_w, i32_w]
         rfl
        exact norm_ (by simp only [putAll, Act.put, List.setIfInBounds_toArray, List.set_cons_zero, List.set_cons_succ]) (hCont (v169, v173) _ ⟨hHeld, (by refine rP ?_;exact Kd.R_mono HO170.out (fun _ hk => hk.2)), (by refine rP ?_;exact Kd.R_mono HO174.out (fun _ hk => hk.2)), (by exact kP BK160.out), (by exact bB)⟩)
       ·skip
        refine Kd.R_lit_step (Kd.int .i64) _ 3 ?hg (N := 63) ?hd (xs := ([rd l2 x11_1] : List Int)) (inner := [.int .i64 (rd l2 x11_1)]) (ok := fun _ => True) (okp := fun _ => True) ?hr ?hp (fun _ hk => hk) trivial (Below.refl _ _) (Nat.le_refl _) (by simp) ?_;(case hd => rfl);(case hg => rfl);(case hr => exact gS);(case hp => exact (Reps.one (show Kd.M (Kd.int .i64) _ _ _ (rd l2 x11_1) [.int .i64 (rd l2 x11_1)] from rfl) (Reps.none _ _)))
        intro v173 w30 ho31 hb hg_ hnew_
        clear hg_ hnew_
        (first | rw [← Ny172.out] at ho31 | (simp only [Int.reduceToNat] at ho31;rw [← Ny172.out] at ho31))
        have n0_ := aM (Kd.R_lower ho31 (below_size (by exact bB)))
        have n1_ := aM (kB hb BK160.out)
        have n2_ := aM (below_step (by exact bB) hb)
        clear BK160
        clear HB
        have HO174 := n0_
        have BK160 := n1_
        have HB := n2_
        clear n0_ n1_ n2_
        clear hb ho31
        refine hK.out _ _ ⟨(blk_cell BK160.out 0).trans rfl, (blk_cell BK160.out 1).trans rfl, ((HB.out.cell (World.block_lt_of_cell? w _ hw171_0)).trans hw171_0)⟩ (fun hHeld => ?_)
        clear hK K
        refine norm_ (a' := ?_) ?_ ?_
        rotate_left
        ·show Act.put _ (some 63) _ = _
         simp only [Act.put, List.setIfInBounds_toArray, List.set_cons_zero, List.set_cons_succ, i64_w, i32_w]
         rfl
        refine one_ (i := 6) (N := some 58) (pT 12 2) rfl rfl (one_of HT_.out (by kernel_rfl)) (by decide) (fun K hK => ?_)
        refine goes_ Tryd.func52 (by kernel_rfl) rfl #[.slice A4 l4.length c4] (by rfl) rfl rfl mM ?_
        with_reducible refine (spec_l1Own.calls _ _ l4 t168 _ ?side1 ?side2 A23.out).mono ?_
        (case side1 => exact cP (Kd.C_below HR4.out HB.out))
        (case side2 => exact HC4.out)
        rintro e w32 ⟨v169, rfl, ho0, hb⟩
        refine ⟨_, rfl, ?_⟩
        have n0_ := aM (Kd.R_elder' (by exact rP HO174.out) (Kd.R_base ho0) hb)
        have n1_ := aM (Kd.R_lower (Kd.R_new' ho0 (Kd.R_lt (by exact rP HO174.out))) (below_size (by exact bB)))
        have n2_ := aM (kB hb BK160.out)
        have n3_ := aM (below_step (by exact bB) hb)
        clear HO174
        clear BK160
        clear HB
        have HO174 := n0_
        have HO170 := n1_
        have BK160 := n2_
        have HB := n3_
        clear n0_ n1_ n2_ n3_
        (try clear hb)
        (try clear hb2)
        (try clear hk)
        (try clear hi)
        (try clear ho0)
        refine hK.out _ _ ⟨(blk_cell BK160.out 0).trans rfl, (blk_cell BK160.out 1).trans rfl, ((HB.out.cell (World.block_lt_of_cell? w _ hw171_0)).trans hw171_0)⟩ (fun hHeld => ?_)
        clear hK K
        refine norm_ (a' := ?_) ?_ ?_
        rotate_left
        ·show Act.put _ (some 58) _ = _
         simp only [Act.put, List.setIfInBounds_toArray, List.set_cons_zero, List.set_cons_succ, i64_w, i32_w]
         rfl
        exact norm_ (by simp only [putAll, Act.put, List.setIfInBounds_toArray, List.set_cons_zero, List.set_cons_succ]) (hCont (v169, v173) _ ⟨hHeld, (by refine rP ?_;exact Kd.R_mono HO170.out (fun _ hk => hk.2)), (by refine rP ?_;exact Kd.R_mono HO174.out (fun _ hk => hk.2)), (by exact kP BK160.out), (by exact bB)⟩)
      rintro ⟨v169, v173⟩ w33 ⟨hS_, h0_, h1_, h2_, h3_⟩
      have n0_ : Aside0 (Kd.R (Kd.int .i64) 3 w33 w.heap.size (fun k_ => some k_ ≠ (v173 : Value).ownBlock) v169 t168) := ⟨h0_⟩
      have n1_ : Aside0 (Kd.R (Kd.int .i64) 3 w33 w.heap.size (fun k_ => some k_ ≠ (v169 : Value).ownBlock) v173 y172) := ⟨h1_⟩
      have n2_ : Aside0 (w33.heap[gb160]? = some (.cells #[.int .i64 a0_0, .slice A0_1 l0_1.length c0_1] 29 (0, 0))) := ⟨h2_⟩
      have n3_ : Aside0 (Below w.heap.size w w33) := ⟨h3_⟩
      clear BK160
      clear HB
      clear h0_ h1_ h2_ h3_
      have HO170 := n0_
      have HO174 := n1_
      have BK160 := n2_
      have HB := n3_
      clear n0_ n1_ n2_ n3_
      have hHeld : w33.cell? ⟨gb160, 0, none⟩ = some (.int .i64 a0_0) ∧ w33.cell? ⟨gb160, 1, none⟩ = some (.slice A0_1 l0_1.length c0_1) ∧ w33.cell? (ad171.add (x11_1).toNat) = some (.int .i64 (rd l2 x11_1)) := hS_
      obtain ⟨Ao35, co35, eo35⟩ := Kd.R_slice HO174.out
      (first | subst eo35 | (injection eo35 with f1_ f2_ f3_;have f4_ := f1_.symm;have f5_ := f3_.symm;clear f1_ f2_ f3_;subst f4_;subst f5_))
      refine norm_ (a' := ?_) ?_ ?_
      rotate_left
      ·simp only [putAll, Act.put, List.setIfInBounds_toArray, List.set_cons_zero, List.set_cons_succ]
       rfl
      refine one_ (i := 12) (N := some 64) (pT 13 1) rfl rfl (one_of HT_.out (by kernel_rfl)) (by decide) (fun K hK => ?_)
      refine Kd.R_append_rows_step (Kd.int .i64) (w0 := w) w.heap.size (by rfl) (.tmp 58) (.tmp 63) 36 3 (.int .i64 0) 8 rfl Tryd.underlying36 info3 rfl (by decide) (by omega) v169 t168 y172 _ _ _ (fun k_ => some k_ ≠ (.slice Ao35 y172.length co35 : Value).ownBlock) (fun _ => False) rfl rfl ?aO ?aR (fun _ _ h => h) (fun _ h => h.elim) ?aF ?aB ?aS ?aL ?_
      (case aR => exact cP (Kd.R_reads' HO174.out).2.2)
      (case aB => exact (by exact bB))
      (case aF => exact (fun k_ hk => Kd.fresh' (Kd.R_lt (by exact rP HO174.out)) k_ hk))
      (case aO => exact (by exact rP HO170.out))
      (case aS => exact (below_size (by exact bB)))
      (case aL => have := LMc26.out;omega)
      intro v176 w34 ho hb hg hat
      rw [← Ny175.out] at ho
      have n0_ := aM (blk_grown (g := gb160) (o := .cells #[.int .i64 a0_0, .slice A0_1 l0_1.length c0_1] 29 (0, 0)) (by exact kP BK160.out) hg (Kd.R_ne HO170.out BK160.out (by decide)))
      have n1_ := aM (Kd.R_after (ok := (fun _ => True)) (by exact rP (Kd.R_mono HO174.out (fun _ hk => ⟨trivial, hk⟩))) hg hat)
      have n2_ := aM (hb)
      have n3_ := aM (ho)
      clear BK160
      clear HO174
      clear HB
      clear HO170
      have BK160 := n0_
      have HO174 := n1_
      have HB := n2_
      have HO177 := n3_
      clear n0_ n1_ n2_ n3_
      clear ho hb hg hat
      obtain ⟨Ao36, co36, eo36⟩ := Kd.R_slice HO177.out
      (first | subst eo36 | (injection eo36 with f1_ f2_ f3_;have f4_ := f1_.symm;have f5_ := f3_.symm;clear f1_ f2_ f3_;subst f4_;subst f5_))
      refine hK.out _ _ ⟨(blk_cell BK160.out 0).trans rfl, (blk_cell BK160.out 1).trans rfl, ((HB.out.cell (World.block_lt_of_cell? w _ hw171_0)).trans hw171_0)⟩ (fun hHeld => ?_)
      clear hK K
      refine norm_ (a' := ?_) ?_ ?_
      rotate_left
      ·show Act.put _ (some 64) _ = _
       simp only [Act.put, List.setIfInBounds_toArray, List.set_cons_zero, List.set_cons_succ, i64_w, i32_w]
       rfl
      refine one_ (i := 13) (N := some 65) (pT 14 0) rfl rfl (one_of HT_.out (by kernel_rfl)) (by decide) (fun K hK => ?_)
      refine goes_ Tryd.func102 (by kernel_rfl) rfl #[.agg #[.int .i64 a0_0, .slice A0_1 l0_1.length c0_1], .slice A1 l1.length c1, .slice (some ad171) l2.length c2, .int .i64 (wrap64 (a3 + 1)), .slice Ao36 y175.length co36] (by rfl) rfl rfl mM ?_
      with_reducible refine (ih kj9 (by have := HK1.out;have := HJ9.out;omega) a0_0 _ _ l0_1 _ _ l1 _ _ l2 (wrap64 (a3 + 1)) _ _ y175 true _ ?side1 ?side2 ?side3 ?side4 ?side5 ?side6 ?side7 ?side8 A27.out).mono ?_
      (case side1 => exact cP (Kd.C_below HR0_1.out HB.out))
      (case side2 => exact HC0_1.out)
      (case side3 => exact cP (Kd.C_below HR1.out HB.out))
      (case side4 => exact HC1.out)
      (case side5 => exact cP (Kd.C_below HR2.out HB.out))
      (case side6 => exact HC2.out)
      (case side7 => exact cP (Kd.R_reads' HO177.out).2.2)
      (case side8 => exact (Kd.R_reads' HO177.out).2.1)
      rintro e w37 ⟨rfl, hb⟩
      refine ⟨_, rfl, ?_⟩
      have n0_ := aM (Kd.R_below (by exact rP HO174.out) hb)
      have n1_ := aM (Kd.R_below (by exact rP HO177.out) hb)
      have n2_ := aM (kB hb BK160.out)
      have n3_ := aM (below_step (by exact bB) hb)
      clear HO174
      clear HO177
      clear BK160
      clear HB
      have HO174 := n0_
      have HO177 := n1_
      have BK160 := n2_
      have HB := n3_
      clear n0_ n1_ n2_ n3_
      (try clear hb)
      (try clear hb2)
      (try clear hk)
      (try clear hi)
      refine hK.out _ _ ⟨(blk_cell BK160.out 0).trans rfl, (blk_cell BK160.out 1).trans rfl, ((HB.out.cell (World.block_lt_of_cell? w _ hw171_0)).trans hw171_0)⟩ (fun hHeld => ?_)
      clear hK K
      refine norm_ (a' := ?_) ?_ ?_
      rotate_left
      ·show Act.put _ (some 65) _ = _
       simp only [Act.put, List.setIfInBounds_toArray, List.set_cons_zero, List.set_cons_succ, i64_w, i32_w]
       rfl
      refine done_ (done_of HT_.out (by kernel_rfl)) ?_
      try go_wp2
      go_ret
      exact ⟨eW, by exact bB⟩
     replace c28 := Bool.eq_false_iff.mpr c28
     subst c28
     rw [if_neg (show ¬ (false = true) by decide)] at H
     have H' := Aside0.mk H
     clear H
     try go_wp2
     have n0_ := aM (blk_drew BK160.out)
     have n1_ := aM (below_drew1 HB.out)
     clear BK160
     clear HB
     have BK160 := n0_
     have HB := n1_
     clear n0_ n1_
     have p171 : 0 ≤ (x11_1 : Int) := oA
     have q171 : x11_1 < (l2.length : Int) := oA
     obtain ⟨ad171, e171, hx171_0⟩ := Kd.at_int HR2.out x11_1 p171 q171
     have hw171_0 := hx171_0
     cases e171
     replace hx171_0 := (HB.out.cell (World.block_lt_of_cell? w _ hx171_0)).trans hx171_0
     replace p171 := eq_true p171
     replace q171 := eq_true q171
     refine start_ (n := 14) (S := fun w' => w'.cell? ⟨gb160, 0, none⟩ = some (.int .i64 a0_0) ∧ w'.cell? ⟨gb160, 1, none⟩ = some (.slice A0_1 l0_1.length c0_1) ∧ w'.cell? (ad171.add (x11_1).toNat) = some (.int .i64 (rd l2 x11_1))) (ds := []) (pT 0 14) (by kernel_rfl) rfl rfl ⟨(blk_cell BK160.out 0).trans rfl, (blk_cell BK160.out 1).trans rfl, ((HB.out.cell (World.block_lt_of_cell? w _ hw171_0)).trans hw171_0)⟩ (fun hHeld => ?_);refine with_tabW spec_l10Matches.tab7 spec_l10Matches.bits7 (fun HT_ HW_ => ?_)
     generalize wc.drew = w38 at BK160 HB hx171_0 hHeld ⊢
     refine pure_ (i := 1) (N := some 53) (v := ?_) (a' := ?_) #[false,true,false,false,false,false,false,false,false,false,false,false,false,false] rfl rfl (any_of HT_.out (by kernel_rfl)) (fun _ _ _ h => h) (Or.inl ⟨by rfl, ?_⟩) ?_ ?_
     rotate_left
     ·intro w'
      go_simp
      with_reducible rfl
     rotate_left
     ·exact aP
     refine pure_ (i := 2) (N := some 54) (v := ?_) (a' := ?_) #[false,true,true,false,false,false,false,false,false,false,false,false,false,false] rfl rfl (any_of HT_.out (by kernel_rfl)) (fun _ _ _ h => h) (Or.inl ⟨by rfl, ?_⟩) ?_ ?_
     rotate_left
     ·intro w'
      go_simp
      with_reducible rfl
     rotate_left
     ·exact aP
     refine pure_ (i := 3) (N := some 55) (v := ?_) (a' := ?_) #[false,true,true,true,false,false,false,false,false,false,false,false,false,false] rfl rfl (any_of HT_.out (by kernel_rfl)) (fun _ _ _ h => h) (Or.inl ⟨by rfl, ?_⟩) ?_ ?_
     rotate_left
     ·intro w'
      go_simp
      with_reducible rfl
     rotate_left
     ·exact aP
     refine pure_ (i := 4) (N := some 56) (v := ?_) (a' := ?_) #[false,true,true,true,true,false,false,false,false,false,false,false,false,false] rfl rfl (any_of HT_.out (by kernel_rfl)) (fun _ _ _ h => h) (Or.inl ⟨by rfl, ?_⟩) ?_ ?_
     rotate_left
     ·intro w'
      go_simp
      with_reducible rfl
     rotate_left
     ·exact aP
     refine pure_ (i := 5) (N := some 57) (v := ?_) (a' := ?_) #[false,true,true,true,true,true,false,false,false,false,false,false,false,false] rfl rfl (any_of HT_.out (by kernel_rfl)) (fun _ _ _ h => h) (Or.inl ⟨by rfl, ?_⟩) ?_ ?_
     rotate_left
     ·intro w'
      go_simp
      with_reducible rfl
     rotate_left
     ·exact aP
     refine pure_ (i := 7) (N := some 59) (v := ?_) (a' := ?_) #[false,true,true,true,true,true,false,true,false,false,false,false,false,false] rfl rfl (any_of HT_.out (by kernel_rfl)) (fun _ _ _ h => h) (Or.inl ⟨by rfl, ?_⟩) ?_ ?_
     rotate_left
     ·intro w'
      go_simp
      with_reducible rfl
     rotate_left
     ·exact aP
     refine pure_ (i := 8) (N := some 60) (v := ?_) (a' := ?_) #[false,true,true,true,true,true,false,true,true,false,false,false,false,false] rfl rfl (any_of HT_.out (by kernel_rfl)) (fun _ _ _ h => h) (Or.inl ⟨by rfl, ?_⟩) ?_ ?_
     rotate_left
     ·intro w'
      go_simp
      with_reducible rfl
     rotate_left
     ·exact aP
     refine pure_ (i := 9) (N := some 61) (v := ?_) (a' := ?_) #[false,true,true,true,true,true,false,true,true,true,false,false,false,false] rfl rfl (any_of HT_.out (by kernel_rfl)) (fun _ _ _ h => h) (Or.inl ⟨by rfl, ?_⟩) ?_ ?_
     rotate_left
     ·intro w'
      go_simp
      with_reducible rfl
     rotate_left
     ·exact aP
     refine take_ (i := 0) (N := some 52) (v := ?_) (a' := ?_) #[true,true,true,true,true,true,false,true,true,true,false,false,false,false] rfl rfl (take_ofW HT_.out HW_.out (by kernel_rfl)) (fun _ _ _ h => h) (Or.inl ⟨by rfl, ?_⟩) hHeld ?_ ?_
     rotate_left
     ·rintro w' ⟨s0, s1, s2⟩
      go_simp
      with_reducible rfl
     rotate_left
     ·exact aP
     refine take_ (i := 10) (N := some 62) (v := ?_) (a' := ?_) #[true,true,true,true,true,true,false,true,true,true,true,false,false,false] rfl rfl (take_ofW HT_.out HW_.out (by kernel_rfl)) (fun _ _ _ h => h) (Or.inl ⟨by rfl, ?_⟩) hHeld ?_ ?_
     rotate_left
     ·rintro w' ⟨s0, s1, s2⟩
      go_simp
      with_reducible rfl
     rotate_left
     ·exact aP
     refine join_ (σ := Value × Value) 2 (pT 12 2) (fun s_ => [(58, s_.1), (63, s_.2)]) (fun s_ w' => (w'.cell? ⟨gb160, 0, none⟩ = some (.int .i64 a0_0) ∧ w'.cell? ⟨gb160, 1, none⟩ = some (.slice A0_1 l0_1.length c0_1) ∧ w'.cell? (ad171.add (x11_1).toNat) = some (.int .i64 (rd l2 x11_1))) ∧ (Kd.R (Kd.int .i64) 3 w' w.heap.size (fun k_ => some k_ ≠ (s_.2 : Value).ownBlock) s_.1 t168) ∧ (Kd.R (Kd.int .i64) 3 w' w.heap.size (fun k_ => some k_ ≠ (s_.1 : Value).ownBlock) s_.2 y172) ∧ (w'.heap[gb160]? = some (.cells #[.int .i64 a0_0, .slice A0_1 l0_1.length c0_1] 29 (0, 0))) ∧ (Below w.heap.size w w')) ?_ ?_
     rotate_left
     ·intro hCont
      refine two_ (i := 6) (j := 11) (Ni := some 58) (Nj := some 63) (pT 11 3) #[true,true,true,true,true,true,false,true,true,true,true,true,false,false] rfl rfl rfl rfl (two_of HT_.out (by kernel_rfl)) (by decide) (by decide) (fun K hK => ?_) (fun K hK => ?_)
      ·skip
       refine goes_ Tryd.func52 (by kernel_rfl) rfl #[.slice A4 l4.length c4] (by rfl) rfl rfl mM ?_
       with_reducible refine (spec_l1Own.calls _ _ l4 t168 _ ?side1 ?side2 A23.out).mono ?_
       (case side1 => exact cP (Kd.C_below HR4.out HB.out))
       (case side2 => exact HC4.out)
       rintro e w39 ⟨v169, rfl, ho0, hb⟩
       refine ⟨_, rfl, ?_⟩
       have n0_ := aM (Kd.R_lower ho0 (below_size (by exact bB)))
       have n1_ := aM (kB hb BK160.out)
       have n2_ := aM (below_step (by exact bB) hb)
       clear BK160
       clear HB
       have HO170 := n0_
       have BK160 := n1_
       have HB := n2_
       clear n0_ n1_ n2_
       (try clear hb)
       (try clear hb2)
       (try clear hk)
       (try clear hi)
       (try clear ho0)
       refine hK.out _ _ ⟨(blk_cell BK160.out 0).trans rfl, (blk_cell BK160.out 1).trans rfl, ((HB.out.cell (World.block_lt_of_cell? w _ hw171_0)).trans hw171_0)⟩ (fun hHeld => ?_)
       clear hK K
       refine norm_ (a' := ?_) ?_ ?_
       rotate_left
       ·show Act.put _ (some 58) _ = _
        simp only [Act.put, List.setIfInBounds_toArray, List.set_cons_zero, List.set_cons_succ, i64_w, i32_w]
        rfl
       refine one_ (i := 11) (N := some 63) (pT 12 2) rfl rfl (one_of HT_.out (by kernel_rfl)) (by decide) (fun K hK => ?_)
       refine Kd.R_lit_step (Kd.int .i64) _ 3 ?hg (N := 63) ?hd (xs := ([rd l2 x11_1] : List Int)) (inner := [.int .i64 (rd l2 x11_1)]) (ok := fun _ => True) (okp := fun _ => True) ?hr ?hp (fun _ hk => hk) trivial (Below.refl _ _) (Nat.le_refl _) (by simp) ?_;(case hd => rfl);(case hg => rfl);(case hr => exact gS);(case hp => exact (Reps.one (show Kd.M (Kd.int .i64) _ _ _ (rd l2 x11_1) [.int .i64 (rd l2 x11_1)] from rfl) (Reps.none _ _)))
       intro v173 w40 ho41 hb hg_ hnew_
       clear hg_ hnew_
       (first | rw [← Ny172.out] at ho41 | (simp only [Int.reduceToNat] at ho41;rw [← Ny172.out] at ho41))
       have n0_ := aM (Kd.R_elder' (by exact rP HO170.out) (Kd.R_base ho41) hb)
       have n1_ := aM (Kd.R_lower (Kd.R_new' ho41 (Kd.R_lt (by exact rP HO170.out))) (below_size (by exact bB)))
       have n2_ := aM (kB hb BK160.out)
       have n3_ := aM (below_step (by exact bB) hb)
       clear HO170
       clear BK160
       clear HB
       have HO170 := n0_
       have HO174 := n1_
       have BK160 := n2_
       have HB := n3_
       clear n0_ n1_ n2_ n3_
       clear hb ho41
       refine hK.out _ _ ⟨(blk_cell BK160.out 0).trans rfl, (blk_cell BK160.out 1).trans rfl, ((HB.out.cell (World.block_lt_of_cell? w _ hw171_0)).trans hw171_0)⟩ (fun hHeld => ?_)
       clear hK K
       refine norm_ (a' := ?_) ?_ ?_
       rotate_left
       ·show Act.put _ (some 63) _ = _
        simp only [Act.put, List.setIfInBounds_toArray, List.set_cons_zero, List.set_cons_succ, i64_w, i32_w]
        rfl
       exact norm_ (by simp only [putAll, Act.put, List.setIfInBounds_toArray, List.set_cons_zero, List.set_cons_succ]) (hCont (v169, v173) _ ⟨hHeld, (by refine rP ?_;exact Kd.R_mono HO170.out (fun _ hk => hk.2)), (by refine rP ?_;exact Kd.R_mono HO174.out (fun _ hk => hk.2)), (by exact kP BK160.out), (by exact bB)⟩)
      ·skip
       refine Kd.R_lit_step (Kd.int .i64) _ 3 ?hg (N := 63) ?hd (xs := ([rd l2 x11_1] : List Int)) (inner := [.int .i64 (rd l2 x11_1)]) (ok := fun _ => True) (okp := fun _ => True) ?hr ?hp (fun _ hk => hk) trivial (Below.refl _ _) (Nat.le_refl _) (by simp) ?_;(case hd => rfl);(case hg => rfl);(case hr => exact gS);(case hp => exact (Reps.one (show Kd.M (Kd.int .i64) _ _ _ (rd l2 x11_1) [.int .i64 (rd l2 x11_1)] from rfl) (Reps.none _ _)))
       intro v173 w39 ho40 hb hg_ hnew_
       clear hg_ hnew_
       (first | rw [← Ny172.out] at ho40 | (simp only [Int.reduceToNat] at ho40;rw [← Ny172.out] at ho40))
       have n0_ := aM (Kd.R_lower ho40 (below_size (by exact bB)))
       have n1_ := aM (kB hb BK160.out)
       have n2_ := aM (below_step (by exact bB) hb)
       clear BK160
       clear HB
       have HO174 := n0_
       have BK160 := n1_
       have HB := n2_
       clear n0_ n1_ n2_
       clear hb ho40
       refine hK.out _ _ ⟨(blk_cell BK160.out 0).trans rfl, (blk_cell BK160.out 1).trans rfl, ((HB.out.cell (World.block_lt_of_cell? w _ hw171_0)).trans hw171_0)⟩ (fun hHeld => ?_)
       clear hK K
       refine norm_ (a' := ?_) ?_ ?_
       rotate_left
       ·show Act.put _ (some 63) _ = _
        simp only [Act.put, List.setIfInBounds_toArray, List.set_cons_zero, List.set_cons_succ, i64_w, i32_w]
        rfl
       refine one_ (i := 6) (N := some 58) (pT 12 2) rfl rfl (one_of HT_.out (by kernel_rfl)) (by decide) (fun K hK => ?_)
       refine goes_ Tryd.func52 (by kernel_rfl) rfl #[.slice A4 l4.length c4] (by rfl) rfl rfl mM ?_
       with_reducible refine (spec_l1Own.calls _ _ l4 t168 _ ?side1 ?side2 A23.out).mono ?_
       (case side1 => exact cP (Kd.C_below HR4.out HB.out))
       (case side2 => exact HC4.out)
       rintro e w41 ⟨v169, rfl, ho0, hb⟩
       refine ⟨_, rfl, ?_⟩
       have n0_ := aM (Kd.R_elder' (by exact rP HO174.out) (Kd.R_base ho0) hb)
       have n1_ := aM (Kd.R_lower (Kd.R_new' ho0 (Kd.R_lt (by exact rP HO174.out))) (below_size (by exact bB)))
       have n2_ := aM (kB hb BK160.out)
       have n3_ := aM (below_step (by exact bB) hb)
       clear HO174
       clear BK160
       clear HB
       have HO174 := n0_
       have HO170 := n1_
       have BK160 := n2_
       have HB := n3_
       clear n0_ n1_ n2_ n3_
       (try clear hb)
       (try clear hb2)
       (try clear hk)
       (try clear hi)
       (try clear ho0)
       refine hK.out _ _ ⟨(blk_cell BK160.out 0).trans rfl, (blk_cell BK160.out 1).trans rfl, ((HB.out.cell (World.block_lt_of_cell? w _ hw171_0)).trans hw171_0)⟩ (fun hHeld => ?_)
       clear hK K
       refine norm_ (a' := ?_) ?_ ?_
       rotate_left
       ·show Act.put _ (some 58) _ = _
        simp only [Act.put, List.setIfInBounds_toArray, List.set_cons_zero, List.set_cons_succ, i64_w, i32_w]
        rfl
       exact norm_ (by simp only [putAll, Act.put, List.setIfInBounds_toArray, List.set_cons_zero, List.set_cons_succ]) (hCont (v169, v173) _ ⟨hHeld, (by refine rP ?_;exact Kd.R_mono HO170.out (fun _ hk => hk.2)), (by refine rP ?_;exact Kd.R_mono HO174.out (fun _ hk => hk.2)), (by exact kP BK160.out), (by exact bB)⟩)
     rintro ⟨v169, v173⟩ w42 ⟨hS_, h0_, h1_, h2_, h3_⟩
     have n0_ : Aside0 (Kd.R (Kd.int .i64) 3 w42 w.heap.size (fun k_ => some k_ ≠ (v173 : Value).ownBlock) v169 t168) := ⟨h0_⟩
     have n1_ : Aside0 (Kd.R (Kd.int .i64) 3 w42 w.heap.size (fun k_ => some k_ ≠ (v169 : Value).ownBlock) v173 y172) := ⟨h1_⟩
     have n2_ : Aside0 (w42.heap[gb160]? = some (.cells #[.int .i64 a0_0, .slice A0_1 l0_1.length c0_1] 29 (0, 0))) := ⟨h2_⟩
     have n3_ : Aside0 (Below w.heap.size w w42) := ⟨h3_⟩
     clear BK160
     clear HB
     clear h0_ h1_ h2_ h3_
     have HO170 := n0_
     have HO174 := n1_
     have BK160 := n2_
     have HB := n3_
     clear n0_ n1_ n2_ n3_
     have hHeld : w42.cell? ⟨gb160, 0, none⟩ = some (.int .i64 a0_0) ∧ w42.cell? ⟨gb160, 1, none⟩ = some (.slice A0_1 l0_1.length c0_1) ∧ w42.cell? (ad171.add (x11_1).toNat) = some (.int .i64 (rd l2 x11_1)) := hS_
     obtain ⟨Ao44, co44, eo44⟩ := Kd.R_slice HO174.out
     (first | subst eo44 | (injection eo44 with f1_ f2_ f3_;have f4_ := f1_.symm;have f5_ := f3_.symm;clear f1_ f2_ f3_;subst f4_;subst f5_))
     refine norm_ (a' := ?_) ?_ ?_
     rotate_left
     ·simp only [putAll, Act.put, List.setIfInBounds_toArray, List.set_cons_zero, List.set_cons_succ]
      rfl
     refine one_ (i := 12) (N := some 64) (pT 13 1) rfl rfl (one_of HT_.out (by kernel_rfl)) (by decide) (fun K hK => ?_)
     refine Kd.R_append_rows_step (Kd.int .i64) (w0 := w) w.heap.size (by rfl) (.tmp 58) (.tmp 63) 36 3 (.int .i64 0) 8 rfl Tryd.underlying36 info3 rfl (by decide) (by omega) v169 t168 y172 _ _ _ (fun k_ => some k_ ≠ (.slice Ao44 y172.length co44 : Value).ownBlock) (fun _ => False) rfl rfl ?aO ?aR (fun _ _ h => h) (fun _ h => h.elim) ?aF ?aB ?aS ?aL ?_
     (case aR => exact cP (Kd.R_reads' HO174.out).2.2)
     (case aB => exact (by exact bB))
     (case aF => exact (fun k_ hk => Kd.fresh' (Kd.R_lt (by exact rP HO174.out)) k_ hk))
     (case aO => exact (by exact rP HO170.out))
     (case aS => exact (below_size (by exact bB)))
     (case aL => have := LMc26.out;omega)
     intro v176 w43 ho hb hg hat
     rw [← Ny175.out] at ho
     have n0_ := aM (blk_grown (g := gb160) (o := .cells #[.int .i64 a0_0, .slice A0_1 l0_1.length c0_1] 29 (0, 0)) (by exact kP BK160.out) hg (Kd.R_ne HO170.out BK160.out (by decide)))
     have n1_ := aM (Kd.R_after (ok := (fun _ => True)) (by exact rP (Kd.R_mono HO174.out (fun _ hk => ⟨trivial, hk⟩))) hg hat)
     have n2_ := aM (hb)
     have n3_ := aM (ho)
     clear BK160
     clear HO174
     clear HB
     clear HO170
     have BK160 := n0_
     have HO174 := n1_
     have HB := n2_
     have HO177 := n3_
     clear n0_ n1_ n2_ n3_
     clear ho hb hg hat
     obtain ⟨Ao45, co45, eo45⟩ := Kd.R_slice HO177.out
     (first | subst eo45 | (injection eo45 with f1_ f2_ f3_;have f4_ := f1_.symm;have f5_ := f3_.symm;clear f1_ f2_ f3_;subst f4_;subst f5_))
     refine hK.out _ _ ⟨(blk_cell BK160.out 0).trans rfl, (blk_cell BK160.out 1).trans rfl, ((HB.out.cell (World.block_lt_of_cell? w _ hw171_0)).trans hw171_0)⟩ (fun hHeld => ?_)
     clear hK K
     refine norm_ (a' := ?_) ?_ ?_
     rotate_left
     ·show Act.put _ (some 64) _ = _
      simp only [Act.put, List.setIfInBounds_toArray, List.set_cons_zero, List.set_cons_succ, i64_w, i32_w]
      rfl
     refine one_ (i := 13) (N := some 65) (pT 14 0) rfl rfl (one_of HT_.out (by kernel_rfl)) (by decide) (fun K hK => ?_)
     refine goes_ Tryd.func102 (by kernel_rfl) rfl #[.agg #[.int .i64 a0_0, .slice A0_1 l0_1.length c0_1], .slice A1 l1.length c1, .slice (some ad171) l2.length c2, .int .i64 (wrap64 (a3 + 1)), .slice Ao45 y175.length co45] (by rfl) rfl rfl mM ?_
     with_reducible refine (ih kj9 (by have := HK1.out;have := HJ9.out;omega) a0_0 _ _ l0_1 _ _ l1 _ _ l2 (wrap64 (a3 + 1)) _ _ y175 false _ ?side1 ?side2 ?side3 ?side4 ?side5 ?side6 ?side7 ?side8 A27.out).mono ?_
     (case side1 => exact cP (Kd.C_below HR0_1.out HB.out))
     (case side2 => exact HC0_1.out)
     (case side3 => exact cP (Kd.C_below HR1.out HB.out))
     (case side4 => exact HC1.out)
     (case side5 => exact cP (Kd.C_below HR2.out HB.out))
     (case side6 => exact HC2.out)
     (case side7 => exact cP (Kd.R_reads' HO177.out).2.2)
     (case side8 => exact (Kd.R_reads' HO177.out).2.1)
     rintro e w46 ⟨rfl, hb⟩
     refine ⟨_, rfl, ?_⟩
     have n0_ := aM (Kd.R_below (by exact rP HO174.out) hb)
     have n1_ := aM (Kd.R_below (by exact rP HO177.out) hb)
     have n2_ := aM (kB hb BK160.out)
     have n3_ := aM (below_step (by exact bB) hb)
     clear HO174
     clear HO177
     clear BK160
     clear HB
     have HO174 := n0_
     have HO177 := n1_
     have BK160 := n2_
     have HB := n3_
     clear n0_ n1_ n2_ n3_
     (try clear hb)
     (try clear hb2)
     (try clear hk)
     (try clear hi)
     refine hK.out _ _ ⟨(blk_cell BK160.out 0).trans rfl, (blk_cell BK160.out 1).trans rfl, ((HB.out.cell (World.block_lt_of_cell? w _ hw171_0)).trans hw171_0)⟩ (fun hHeld => ?_)
     clear hK K
     refine norm_ (a' := ?_) ?_ ?_
     rotate_left
     ·show Act.put _ (some 65) _ = _
      simp only [Act.put, List.setIfInBounds_toArray, List.set_cons_zero, List.set_cons_succ, i64_w, i32_w]
      rfl
     refine done_ (done_of HT_.out (by kernel_rfl)) ?_
     try go_wp2
     go_roundg kj9
     case measure => have := HK1.out;have := HJ9.out;omega
     case rel => exact ⟨(wrap64 (x11_1 + 1)), eF, H', ⟨by have := HK1.out;have := HJ9.out;omega⟩, ⟨by exact kP BK160.out⟩, ⟨by exact bB⟩⟩


end Go.Proofs.YtgahlimikndecaaDoor.QEternalFamily
