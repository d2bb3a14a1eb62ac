import Derived.Test.YtgahlimikndecaaDoorQEternalFamily0
import Derived.Test.YtgahlimikndecaaDoorQEternalFamily1
import Derived.Test.YtgahlimikndecaaDoorQEternalFamily2
namespace Go.Proofs.YtgahlimikndecaaDoor.QEternalFamily
open Go.RowKit Go.Proofs.YtgahlimikndecaaDoorW.PrintWords Go.Proofs.YtgahlimikndecaaDoorW.PrintLast Go.Proofs.YtgahlimikndecaaDoorW.PrintMore
attribute [local go_sem] max2_int min2_int max_two min_two max_three min_three max_four min_four   -- for this text's walks alone
set_option linter.unusedVariables false
set_option linter.unusedSimpArgs false
set_option maxRecDepth 100000
set_option maxHeartbeats 8000000
/-! ### spec_l10Moves: function 91 -/
def spec_l10Moves.l0 : Nat → List Int → List Int → List Int → List Int → Int → Int → List (S78) → Option (Bool)
 | 0, _, _, _, _, _, _, _ => none
 | k + 1, x1, x2, x9, x10, x11, x180000, x180001 => if x11 < (x1.length : Int) then (if 0 ≤ x11 then ((spec_l1Has.f k x2 (rd x1 x11)).bind fun t194 => (if t194 = true then (if x11 < (x2.length : Int) then ((spec_l1Has.f k x1 (rd x2 x11)).bind fun t196 => (if t196 = true then (spec_l10Moves.l0 k x1 x2 x9 x10 (wrap64 (x11 + 1)) x180000 x180001) else (if x10.length < 17592186044416 then (spec_l10Moves.l0 k x1 x2 x9 (x10 ++ [rd x2 x11]) (wrap64 (x11 + 1)) x180000 x180001) else (none)))) else (none)) else (if x9.length < 17592186044416 then ((some (x9 ++ [rd x1 x11] : List Int)).bind fun y202 => (if x11 < (x2.length : Int) then ((spec_l1Has.f k x1 (rd x2 x11)).bind fun t206 => (if t206 = true then (spec_l10Moves.l0 k x1 x2 y202 x10 (wrap64 (x11 + 1)) x180000 x180001) else (if x10.length < 17592186044416 then (spec_l10Moves.l0 k x1 x2 y202 (x10 ++ [rd x2 x11]) (wrap64 (x11 + 1)) x180000 x180001) else (none)))) else (none))) else (none)))) else (none)) else (if (x9.length : Int) = 1 then (if 0 < (x9.length : Int) then (if 0 < (x10.length : Int) then ((spec_l2Near.f k x180000 x180001 (rd x9 0) (rd x10 0)).bind fun t192 => (some t192)) else (none)) else (none)) else (some false))
def spec_l10Moves.f (k : Nat) (a0_0 : Int) (l0_1 : List (S78)) (l1 : List Int) (l2 : List Int) (a3 : Bool) : Option (Bool) := if a3 = true then ((spec_l10Matches.f k a0_0 l0_1 l1 l2 0 (([] : List Int))).bind fun t183 => (some t183)) else (spec_l10Moves.l0 k l1 l2 (([] : List Int)) (([] : List Int)) 0 a0_0 l0_1)
theorem spec_l10Moves.mono_l : ∀ k, (∀ y0 y1 y2 y3 y4 y5 y6, LeO (spec_l10Moves.l0 k y0 y1 y2 y3 y4 y5 y6) (spec_l10Moves.l0 (k + 1) y0 y1 y2 y3 y4 y5 y6))
 | 0 => fun _ _ _ _ _ _ _ r h => by simp [spec_l10Moves.l0] at h
 | k + 1 => by
  have ih0 := spec_l10Moves.mono_l k
  ·intro y0 y1 y2 y3 y4 y5 y6
   unfold spec_l10Moves.l0
   have q0 := spec_l10Matches.mono
   have q1 := spec_l1Has.mono
   have q2 := spec_l2Near.mono
   exact lM
theorem spec_l10Moves.mono : ∀ a0 a1 a2 a3 a4 k, LeO (spec_l10Moves.f k a0 a1 a2 a3 a4) (spec_l10Moves.f (k + 1) a0 a1 a2 a3 a4) := by
 intro a0 a1 a2 a3 a4 k
 have ih0 := spec_l10Moves.mono_l k
 unfold spec_l10Moves.f
 have q0 := spec_l10Matches.mono
 have q1 := spec_l1Has.mono
 have q2 := spec_l2Near.mono
 exact lM
def spec_l10Moves.T11 : Bool × List (List Nat × List Nat) := (true, [([], []), ([0], [0]), ([1], [1]), ([2], [2]), ([3], [3]), ([3], [3]), ([5, 3], [3, 5]), ([6, 3], [3, 6]), ([3], [3]), ([8, 3], [3, 8]), ([9, 3], [3, 9]), ([4, 7, 10, 3, 3], [3, 4, 7, 10]), ([3, 11], [3, 11]), ([12, 11, 0, 1, 2, 3, 4, 5, 6, 7, 8, 9, 10, 11, 12], [12])])
def spec_l10Moves.B11 : List Nat := [0, 1, 3, 7, 15, 15, 47, 111, 15, 271, 783, 2047, 4095, 8191]
theorem spec_l10Moves.tab11 : rtab .any (opsOf Tryd.f91 11) = spec_l10Moves.T11 := by kernel_rfl
theorem spec_l10Moves.bits11 : waitsOk spec_l10Moves.T11.2 spec_l10Moves.B11 = true := by kernel_rfl
theorem spec_l10Moves.calls (k : Nat) (a0_0 : Int) (A0_1 : Option Addr) (c0_1 : Nat) (l0_1 : List (S78)) (A1 : Option Addr) (c1 : Nat) (l1 : List Int) (A2 : Option Addr) (c2 : Nat) (l2 : List Int) (a3 : Bool) (r : Bool) (w : World) (hr0_1 : Kd.C k78 w A0_1 l0_1.length l0_1) (hc0_1 : l0_1.length ≤ c0_1) (hr1 : Kd.C (Kd.int .i64) w A1 l1.length l1) (hc1 : l1.length ≤ c1) (hr2 : Kd.C (Kd.int .i64) w A2 l2.length l2) (hc2 : l2.length ≤ c2) (h : spec_l10Moves.f k a0_0 l0_1 l1 l2 a3 = some r) :
  Calls Tryd.prog 91 #[.agg #[.int .i64 a0_0, .slice A0_1 l0_1.length c0_1], .slice A1 l1.length c1, .slice A2 l2.length c2, .bool a3] w fun e w' => e = .returned (.bool r) ∧ Below w.heap.size w w' := by
 have hu29 := Tryd.underlying29
 have HR0_1 := Aside0.mk hr0_1
 have HC0_1 := Aside0.mk hc0_1
 clear hr0_1 hc0_1
 have HR1 := Aside0.mk hr1
 have HC1 := Aside0.mk hc1
 clear hr1 hc1
 have HR2 := Aside0.mk hr2
 have HC2 := Aside0.mk hc2
 clear hr2 hc2
 have HB := aM (Below.refl w.heap.size w)
 have H : (if a3 = true then ((spec_l10Matches.f k a0_0 l0_1 l1 l2 0 (([] : List Int))).bind fun t183 => (some t183)) else (spec_l10Moves.l0 k l1 l2 (([] : List Int)) (([] : List Int)) 0 a0_0 l0_1)) = some r := h
 clear h
 by_cases c5 : a3 = true
 ·subst c5
  rw [if_pos rfl] at H
  obtain ⟨y180, hy180⟩ : ∃ y_ : List Int, y_ = (([] : List Int)) := ⟨_, rfl⟩
  replace H : ((spec_l10Matches.f k a0_0 l0_1 l1 l2 0 y180).bind fun t183 => (some t183)) = some r := by first | (rw [hy180];with_reducible exact H) | (have H2_ := (Option.bind_some _ _).symm.trans H;rw [hy180];with_reducible exact H2_) | (have H2_ := (Option.bind_some _ _).symm.trans H;with_reducible exact H2_) | with_reducible exact H | (rw [hy180];exact H) | exact H
  have Ny180 := Aside0.mk hy180
  clear hy180
  replace H := Option.bind_eq_some_iff.mp H
  obtain ⟨t183, A60, H⟩ := H
  try dsimp only at H
  have A6 := Aside0.mk A60
  clear A60
  obtain rfl := Option.some.inj H
  go_enter Tryd.func91, Tryd.ntmps91
  go_wp2_with (first | ((with_reducible refine gate_dst (N := 4) rfl ?_);refine box_event ?hg (N := 4) ?hd (cs := #[.int .i64 a0_0, .slice A0_1 l0_1.length c0_1]) (t := 29) ?hr ?_;(case hd => rfl);(case hg => rfl);(case hr => exact gS);intro gb179 hg w7 hbox hb;have n0_ := aM (below_step (by exact bB) hb);have n1_ := aM (hbox);have n2_ := aM (sW hg : w.heap.size ≤ gb179);have n3_ := aM (sW hg : w.heap.size ≤ gb179);clear HB;have HB := n0_;have BK179 := n1_;have GW179 := n2_;have GE179 := n3_;clear n0_ n1_ n2_ n3_;clear hb hbox hg;have hcz8_0 := bC0 BK179.out;have hcz8_1 := bC1 BK179.out;have hfz8_0 := blk_frozen BK179.out 0;have hfz8_1 := blk_frozen BK179.out 1) | ((with_reducible refine gate_dst (N := 16) rfl ?_);refine Kd.R_lit (Kd.int .i64) _ 3 ?hg (N := 16) ?hd (xs := ([] : List Int)) (inner := []) (ok := fun _ => True) (okp := fun _ => True) ?hr ?hp (fun _ hk => hk) trivial (Below.refl _ _) (Nat.le_refl _) (by simp) ?_;(case hd => rfl);(case hg => rfl);(case hr => exact gS);(case hp => exact (Reps.none _ _));intro v181 w9 ho10 hb hg_ hnew_;clear hg_ hnew_;(first | rw [← Ny180.out] at ho10 | (simp only [Int.reduceToNat] at ho10;rw [← Ny180.out] at ho10));have n0_ := aM (Kd.R_lower ho10 (below_size (by exact bB)));have n1_ := aM (kB hb BK179.out);have n2_ := aM (below_step (by exact bB) hb);clear BK179;clear HB;have HO182 := n0_;have BK179 := n1_;have HB := n2_;clear n0_ n1_ n2_;clear hb ho10;obtain ⟨Ao11, co11, eo11⟩ := Kd.R_slice HO182.out;subst eo11) | ((with_reducible refine gate_callee (f := 102) rfl ?_);refine goesL_ (some 17) rfl rfl Tryd.func102 (by kernel_rfl) rfl #[.agg #[.int .i64 a0_0, .slice A0_1 l0_1.length c0_1], .slice A1 l1.length c1, .slice A2 l2.length c2, .int .i64 0, .slice Ao11 y180.length co11] rfl mM ?_;(with_reducible refine (spec_l10Matches.calls k a0_0 _ _ l0_1 _ _ l1 _ _ l2 0 _ _ y180 t183 _ ?side1 ?side2 ?side3 ?side4 ?side5 ?side6 ?side7 ?side8 A6.out).mono ?_);(case side1 => exact cP (Kd.C_below HR0_1.out HB.out));(case side2 => exact HC0_1.out);(case side3 => exact cP (Kd.C_below HR1.out HB.out));(case side4 => exact HC1.out);(case side5 => exact cP (Kd.C_below HR2.out HB.out));(case side6 => exact HC2.out);(case side7 => exact cP (Kd.R_reads' HO182.out).2.2);(case side8 => exact (Kd.R_reads' HO182.out).2.1);rintro e w12 ⟨rfl, hb⟩;refine ⟨_, rfl, ?_⟩;have n0_ := aM (Kd.R_below (by exact rP HO182.out) hb);have n1_ := aM (kB hb BK179.out);have n2_ := aM (below_step (by exact bB) hb);clear HO182;clear BK179;clear HB;have HO182 := n0_;have BK179 := n1_;have HB := n2_;clear n0_ n1_ n2_;(try clear hb)))
  go_ret
  exact ⟨eW, by exact bB⟩
 replace c5 := Bool.eq_false_iff.mpr c5
 subst c5
 rw [if_neg (show ¬ (false = true) by decide)] at H
 obtain ⟨y184, hy184⟩ : ∃ y_ : List Int, y_ = (([] : List Int)) := ⟨_, rfl⟩
 replace H : (spec_l10Moves.l0 k l1 l2 y184 (([] : List Int)) 0 a0_0 l0_1) = some r := by first | (rw [hy184];with_reducible exact H) | (have H2_ := (Option.bind_some _ _).symm.trans H;rw [hy184];with_reducible exact H2_) | (have H2_ := (Option.bind_some _ _).symm.trans H;with_reducible exact H2_) | with_reducible exact H | (rw [hy184];exact H) | exact H
 have Ny184 := Aside0.mk hy184
 clear hy184
 obtain ⟨y187, hy187⟩ : ∃ y_ : List Int, y_ = (([] : List Int)) := ⟨_, rfl⟩
 replace H : (spec_l10Moves.l0 k l1 l2 y184 y187 0 a0_0 l0_1) = some r := by first | (rw [hy187];with_reducible exact H) | (have H2_ := (Option.bind_some _ _).symm.trans H;rw [hy187];with_reducible exact H2_) | (have H2_ := (Option.bind_some _ _).symm.trans H;with_reducible exact H2_) | with_reducible exact H | (rw [hy187];exact H) | exact H
 have Ny187 := Aside0.mk hy187
 clear hy187
 have H' := Aside0.mk H
 clear H
 go_enter Tryd.func91, Tryd.ntmps91
 go_wp2_with (first | ((with_reducible refine gate_dst (N := 4) rfl ?_);refine box_event ?hg (N := 4) ?hd (cs := #[.int .i64 a0_0, .slice A0_1 l0_1.length c0_1]) (t := 29) ?hr ?_;(case hd => rfl);(case hg => rfl);(case hr => exact gS);intro gb179 hg w13 hbox hb;have n0_ := aM (below_step (by exact bB) hb);have n1_ := aM (hbox);have n2_ := aM (sW hg : w.heap.size ≤ gb179);have n3_ := aM (sW hg : w.heap.size ≤ gb179);clear HB;have HB := n0_;have BK179 := n1_;have GW179 := n2_;have GE179 := n3_;clear n0_ n1_ n2_ n3_;clear hb hbox hg) | ((with_reducible refine gate_dst (N := 18) rfl ?_);refine Kd.R_lit (Kd.int .i64) _ 3 ?hg (N := 18) ?hd (xs := ([] : List Int)) (inner := []) (ok := fun _ => True) (okp := fun _ => True) ?hr ?hp (fun _ hk => hk) trivial (Below.refl _ _) (Nat.le_refl _) (by simp) ?_;(case hd => rfl);(case hg => rfl);(case hr => exact gS);(case hp => exact (Reps.none _ _));intro v185 w14 ho15 hb hg_ hnew_;clear hg_ hnew_;(first | rw [← Ny184.out] at ho15 | (simp only [Int.reduceToNat] at ho15;rw [← Ny184.out] at ho15));have n0_ := aM (Kd.R_lower ho15 (below_size (by exact bB)));have n1_ := aM (kB hb BK179.out);have n2_ := aM (below_step (by exact bB) hb);clear BK179;clear HB;have HO186 := n0_;have BK179 := n1_;have HB := n2_;clear n0_ n1_ n2_;clear hb ho15) | ((with_reducible refine gate_dst (N := 19) rfl ?_);refine Kd.R_lit (Kd.int .i64) _ 3 ?hg (N := 19) ?hd (xs := ([] : List Int)) (inner := []) (ok := fun _ => True) (okp := fun _ => True) ?hr ?hp (fun _ hk => hk) trivial (Below.refl _ _) (Nat.le_refl _) (by simp) ?_;(case hd => rfl);(case hg => rfl);(case hr => exact gS);(case hp => exact (Reps.none _ _));intro v188 w16 ho17 hb hg_ hnew_;clear hg_ hnew_;(first | rw [← Ny187.out] at ho17 | (simp only [Int.reduceToNat] at ho17;rw [← Ny187.out] at ho17));have n0_ := aM (Kd.R_elder' (by exact rP HO186.out) (Kd.R_base ho17) hb);have n1_ := aM (Kd.R_lower (Kd.R_new' ho17 (Kd.R_lt (by exact rP HO186.out))) (below_size (by exact bB)));have n2_ := aM (kB hb BK179.out);have n3_ := aM (below_step (by exact bB) hb);clear HO186;clear BK179;clear HB;have HO186 := n0_;have HO189 := n1_;have BK179 := n2_;have HB := n3_;clear n0_ n1_ n2_ n3_;clear hb ho17))
 go_loopg [9, 10, 11] k (fun kq v9 v10 v11 w' => ∃ (x9_1 : List Int) (x10_1 : List Int) (x11_1 : Int), v11 = .int .i64 x11_1 ∧ Aside0 (spec_l10Moves.l0 kq l1 l2 x9_1 x10_1 x11_1 a0_0 l0_1 = some r) ∧ Aside0 (kq ≤ k) ∧ Aside0 (Kd.R (Kd.int .i64) 3 w' w.heap.size (fun k_ => some k_ ≠ (v10 : Value).ownBlock) v9 x9_1) ∧ Aside0 (Kd.R (Kd.int .i64) 3 w' w.heap.size (fun k_ => some k_ ≠ (v9 : Value).ownBlock) v10 x10_1) ∧ Aside0 (w'.heap[gb179]? = some (.cells #[.int .i64 a0_0, (.slice A0_1 l0_1.length c0_1)] 29 (0, 0))) ∧ Aside0 (Below w.heap.size w w'))
 case atStart => exact ⟨(y184), (y187), (0), eF, H', ⟨Nat.le_refl _⟩, ⟨by refine rP ?_;exact Kd.R_mono HO186.out (fun _ hk => hk.2)⟩, ⟨by refine rP ?_;exact Kd.R_mono HO189.out (fun _ hk => hk.2)⟩, ⟨by exact kP BK179.out⟩, ⟨by exact bB⟩⟩
 case round =>
  clear H'
  try clear c1
  try clear c2
  try clear p2
  try clear c5
  try clear c9
  try clear c10
  try clear hcz8_0
  try clear hcz8_1
  try clear hfz8_0
  try clear hfz8_1
  obtain ⟨x9_1, x10_1, x11_1, rfl, HA, HK1, HO_9, HO_10, BK179, HB⟩ := hrel
  cases gk with
  | zero => exact absurd HA.out (by simp [spec_l10Moves.l0])
  | succ k1 =>
   have H := HA.out
   clear HA
   simp only [spec_l10Moves.l0] at H
   by_cases c18 : x11_1 < (l1.length : Int)
   ·rw [if_pos c18] at H
    have c18b0 : decide (x11_1 < (l1.length : Int)) = true := decide_eq_true c18
    clear c18
    by_cases c19 : 0 ≤ x11_1
    rotate_left
    ·rw [if_neg c19] at H
     exact absurd H (by simp)
    rw [if_pos c19] at H
    have c19b0 : decide (0 ≤ x11_1) = true := decide_eq_true c19
    clear c19
    replace H := Option.bind_eq_some_iff.mp H
    obtain ⟨t194, A200, H⟩ := H
    try dsimp only at H
    have A20 := Aside0.mk A200
    clear A200
    by_cases c21 : t194 = true
    ·subst c21
     rw [if_pos rfl] at H
     by_cases c22 : x11_1 < (l2.length : Int)
     rotate_left
     ·rw [if_neg c22] at H
      exact absurd H (by simp)
     rw [if_pos c22] at H
     have c22b0 : decide (x11_1 < (l2.length : Int)) = true := decide_eq_true c22
     clear c22
     replace H := Option.bind_eq_some_iff.mp H
     obtain ⟨t196, A230, H⟩ := H
     try dsimp only at H
     have A23 := Aside0.mk A230
     clear A230
     by_cases c24 : t196 = true
     ·subst c24
      rw [if_pos rfl] at H
      have H' := Aside0.mk H
      clear H
      have p193 : 0 ≤ (x11_1 : Int) := oA
      have q193 : x11_1 < (l1.length : Int) := oA
      obtain ⟨ad193, e193, hx193_0⟩ := Kd.at_int HR1.out x11_1 p193 q193
      cases e193
      replace hx193_0 := (HB.out.cell (World.block_lt_of_cell? w _ hx193_0)).trans hx193_0
      replace p193 := eq_true p193
      replace q193 := eq_true q193
      go_wp2_with (first | ((with_reducible refine gate_callee (f := 43) rfl ?_);refine goesL_ (some 31) rfl rfl Tryd.func43 (by kernel_rfl) rfl #[.slice A2 l2.length c2, .int .i64 (rd l1 x11_1)] rfl mM ?_;(with_reducible refine (spec_l1Has.calls k1 _ _ l2 (rd l1 x11_1) true _ ?side1 ?side2 A20.out).mono ?_);(case side1 => exact cP (Kd.C_below HR2.out HB.out));(case side2 => exact HC2.out);rintro e w' ⟨rfl, ⟨nd, rfl⟩⟩;refine ⟨_, rfl, ?_⟩;have p195 : 0 ≤ (x11_1 : Int) := oA;have q195 : x11_1 < (l2.length : Int) := oA;obtain ⟨ad195, e195, hx195_0⟩ := Kd.at_int HR2.out x11_1 p195 q195;cases e195;replace hx195_0 := (HB.out.cell (World.block_lt_of_cell? w _ hx195_0)).trans hx195_0;replace p195 := eq_true p195;replace q195 := eq_true q195) | ((with_reducible refine gate_callee (f := 43) rfl ?_);refine goesL_ (some 45) rfl rfl Tryd.func43 (by kernel_rfl) rfl #[.slice (some ad193) l1.length c1, .int .i64 (rd l2 x11_1)] rfl mM ?_;(with_reducible refine (spec_l1Has.calls k1 _ _ l1 (rd l2 x11_1) true _ ?side1 ?side2 A23.out).mono ?_);(case side1 => exact cP (Kd.C_below HR1.out (by repeat (first | (with_reducible first | exact HB.out | apply below_alloc | apply pw_below_drewN | apply below_drew1 | refine below_set ?_ GE179.out) | exact HB.out))));(case side2 => exact HC1.out);rintro e w' ⟨rfl, ⟨nd, rfl⟩⟩;refine ⟨_, rfl, ?_⟩))
      go_roundg k1
      case measure => have := HK1.out;omega
      case rel => exact ⟨(x9_1), (x10_1), (wrap64 (x11_1 + 1)), eF, H', ⟨by have := HK1.out;omega⟩, ⟨by exact rP HO_9.out⟩, ⟨by exact rP HO_10.out⟩, ⟨by exact kP BK179.out⟩, ⟨by exact bB⟩⟩
     replace c24 := Bool.eq_false_iff.mpr c24
     subst c24
     rw [if_neg (show ¬ (false = true) by decide)] at H
     by_cases c25 : x10_1.length < 17592186044416
     rotate_left
     ·rw [if_neg c25] at H
      exact absurd H (by simp)
     rw [if_pos c25] at H
     have LMc25 := Aside0.mk c25
     clear c25
     obtain ⟨y198, hy198⟩ : ∃ y_ : List Int, y_ = (x10_1 ++ [rd l2 x11_1]) := ⟨_, rfl⟩
     replace H : (spec_l10Moves.l0 k1 l1 l2 x9_1 y198 (wrap64 (x11_1 + 1)) a0_0 l0_1) = some r := by first | (rw [hy198];with_reducible exact H) | (have H2_ := (Option.bind_some _ _).symm.trans H;rw [hy198];with_reducible exact H2_) | (have H2_ := (Option.bind_some _ _).symm.trans H;with_reducible exact H2_) | with_reducible exact H | (rw [hy198];exact H) | exact H
     have Ny198 := Aside0.mk hy198
     clear hy198
     have H' := Aside0.mk H
     clear H
     have p193 : 0 ≤ (x11_1 : Int) := oA
     have q193 : x11_1 < (l1.length : Int) := oA
     obtain ⟨ad193, e193, hx193_0⟩ := Kd.at_int HR1.out x11_1 p193 q193
     cases e193
     replace hx193_0 := (HB.out.cell (World.block_lt_of_cell? w _ hx193_0)).trans hx193_0
     replace p193 := eq_true p193
     replace q193 := eq_true q193
     go_wp2_with (first | ((with_reducible refine gate_callee (f := 43) rfl ?_);refine goesL_ (some 31) rfl rfl Tryd.func43 (by kernel_rfl) rfl #[.slice A2 l2.length c2, .int .i64 (rd l1 x11_1)] rfl mM ?_;(with_reducible refine (spec_l1Has.calls k1 _ _ l2 (rd l1 x11_1) true _ ?side1 ?side2 A20.out).mono ?_);(case side1 => exact cP (Kd.C_below HR2.out HB.out));(case side2 => exact HC2.out);rintro e w' ⟨rfl, ⟨nd, rfl⟩⟩;refine ⟨_, rfl, ?_⟩;have p195 : 0 ≤ (x11_1 : Int) := oA;have q195 : x11_1 < (l2.length : Int) := oA;obtain ⟨ad195, e195, hx195_0⟩ := Kd.at_int HR2.out x11_1 p195 q195;cases e195;replace hx195_0 := (HB.out.cell (World.block_lt_of_cell? w _ hx195_0)).trans hx195_0;replace p195 := eq_true p195;replace q195 := eq_true q195) | ((with_reducible refine gate_callee (f := 43) rfl ?_);refine goesL_ (some 45) rfl rfl Tryd.func43 (by kernel_rfl) rfl #[.slice (some ad193) l1.length c1, .int .i64 (rd l2 x11_1)] rfl mM ?_;(with_reducible refine (spec_l1Has.calls k1 _ _ l1 (rd l2 x11_1) false _ ?side1 ?side2 A23.out).mono ?_);(case side1 => exact cP (Kd.C_below HR1.out (by repeat (first | (with_reducible first | exact HB.out | apply below_alloc | apply pw_below_drewN | apply below_drew1 | refine below_set ?_ GE179.out) | exact HB.out))));(case side2 => exact HC1.out);rintro e w' ⟨rfl, ⟨nd, rfl⟩⟩;refine ⟨_, rfl, ?_⟩;have p197 : 0 ≤ (x11_1 : Int) := oA;have q197 : x11_1 < (l2.length : Int) := oA;obtain ⟨ad197, e197, hx197_0⟩ := Kd.at_int HR2.out x11_1 p197 q197;obtain rfl : ad195 = ad197 := (by injection e197);replace hx197_0 := (HB.out.cell (World.block_lt_of_cell? w _ hx197_0)).trans hx197_0;replace p197 := eq_true p197;replace q197 := eq_true q197) | ((with_reducible refine gate_builtin (b := .append) (xs := #[.tmp 47, .tmp 52]) rfl ?_);at_builtin;refine Kd.R_append (Kd.int .i64) (w0 := w) w.heap.size rfl (.tmp 47) (.tmp 52) 36 3 (.int .i64 0) 8 rfl Tryd.underlying36 info3 rfl (by decide) (by omega) u10 x10_1 (rd l2 x11_1) [.int .i64 (rd l2 x11_1)] (fun k_ => some k_ ≠ (u9 : Value).ownBlock) (fun _ => False) rfl rfl ?aP (fun _ hk => hk.elim) ?aF ?aO ?aB ?aS ?aL ?_;(case aP => exact rfl);(case aB => exact (by exact bB));(case aF => exact (fun k_ hk => Kd.fresh' (Kd.R_lt (by exact rP HO_9.out)) k_ hk));(case aO => exact (by exact rP HO_10.out));(case aS => exact (below_size (by exact bB)));(case aL => have := LMc25.out;omega);intro v199 w26 ho hb hg hat;rw [← Ny198.out] at ho;have n0_ := aM (Kd.R_after (ok := (fun _ => True)) (by exact rP (Kd.R_mono HO_9.out (fun _ hk => ⟨trivial, hk⟩))) hg hat);have n1_ := aM (blk_grown (g := gb179) (o := .cells #[.int .i64 a0_0, .slice A0_1 l0_1.length c0_1] 29 (0, 0)) (by exact kP BK179.out) hg (Kd.R_ne HO_10.out BK179.out (by decide)));have n2_ := aM (hb);have n3_ := aM (ho);clear HO_9;clear BK179;clear HB;clear HO_10;have HO_9 := n0_;have BK179 := n1_;have HB := n2_;have HO200 := n3_;clear n0_ n1_ n2_ n3_;clear ho hb hg hat))
     go_roundg k1
     case measure => have := HK1.out;omega
     case rel => exact ⟨(x9_1), (y198), (wrap64 (x11_1 + 1)), eF, H', ⟨by have := HK1.out;omega⟩, ⟨by refine rP ?_;exact Kd.R_mono HO_9.out (fun _ hk => hk.2)⟩, ⟨by exact rP HO200.out⟩, ⟨by exact kP BK179.out⟩, ⟨by exact bB⟩⟩
    replace c21 := Bool.eq_false_iff.mpr c21
    subst c21
    rw [if_neg (show ¬ (false = true) by decide)] at H
    by_cases c27 : x9_1.length < 17592186044416
    rotate_left
    ·rw [if_neg c27] at H
     exact absurd H (by simp)
    rw [if_pos c27] at H
    have LMc27 := Aside0.mk c27
    clear c27
    obtain ⟨y202, hy202⟩ : ∃ y_ : List Int, y_ = (x9_1 ++ [rd l1 x11_1]) := ⟨_, rfl⟩
    replace H : (if x11_1 < (l2.length : Int) then ((spec_l1Has.f k1 l1 (rd l2 x11_1)).bind fun t206 => (if t206 = true then (spec_l10Moves.l0 k1 l1 l2 y202 x10_1 (wrap64 (x11_1 + 1)) a0_0 l0_1) else (if x10_1.length < 17592186044416 then (spec_l10Moves.l0 k1 l1 l2 y202 (x10_1 ++ [rd l2 x11_1]) (wrap64 (x11_1 + 1)) a0_0 l0_1) else (none)))) else (none)) = some r := by first | (rw [hy202];with_reducible exact H) | (have H2_ := (Option.bind_some _ _).symm.trans H;rw [hy202];with_reducible exact H2_) | (have H2_ := (Option.bind_some _ _).symm.trans H;with_reducible exact H2_) | with_reducible exact H | (rw [hy202];exact H) | exact H
    have Ny202 := Aside0.mk hy202
    clear hy202
    by_cases c28 : x11_1 < (l2.length : Int)
    rotate_left
    ·rw [if_neg c28] at H
     exact absurd H (by simp)
    rw [if_pos c28] at H
    have c28b0 : decide (x11_1 < (l2.length : Int)) = true := decide_eq_true c28
    clear c28
    replace H := Option.bind_eq_some_iff.mp H
    obtain ⟨t206, A290, H⟩ := H
    try dsimp only at H
    have A29 := Aside0.mk A290
    clear A290
    by_cases c30 : t206 = true
    ·subst c30
     rw [if_pos rfl] at H
     have H' := Aside0.mk H
     clear H
     have p193 : 0 ≤ (x11_1 : Int) := oA
     have q193 : x11_1 < (l1.length : Int) := oA
     obtain ⟨ad193, e193, hx193_0⟩ := Kd.at_int HR1.out x11_1 p193 q193
     cases e193
     replace hx193_0 := (HB.out.cell (World.block_lt_of_cell? w _ hx193_0)).trans hx193_0
     replace p193 := eq_true p193
     replace q193 := eq_true q193
     go_wp2_with (first | ((with_reducible refine gate_callee (f := 43) rfl ?_);refine goesL_ (some 31) rfl rfl Tryd.func43 (by kernel_rfl) rfl #[.slice A2 l2.length c2, .int .i64 (rd l1 x11_1)] rfl mM ?_;(with_reducible refine (spec_l1Has.calls k1 _ _ l2 (rd l1 x11_1) false _ ?side1 ?side2 A20.out).mono ?_);(case side1 => exact cP (Kd.C_below HR2.out HB.out));(case side2 => exact HC2.out);rintro e w' ⟨rfl, ⟨nd, rfl⟩⟩;refine ⟨_, rfl, ?_⟩;have p201 : 0 ≤ (x11_1 : Int) := oA;have q201 : x11_1 < (l1.length : Int) := oA;obtain ⟨ad201, e201, hx201_0⟩ := Kd.at_int HR1.out x11_1 p201 q201;obtain rfl : ad193 = ad201 := (by injection e201);replace hx201_0 := (HB.out.cell (World.block_lt_of_cell? w _ hx201_0)).trans hx201_0;replace p201 := eq_true p201;replace q201 := eq_true q201) | ((with_reducible refine gate_builtin (b := .append) (xs := #[.tmp 33, .tmp 38]) rfl ?_);at_builtin;refine Kd.R_append (Kd.int .i64) (w0 := w) w.heap.size rfl (.tmp 33) (.tmp 38) 36 3 (.int .i64 0) 8 rfl Tryd.underlying36 info3 rfl (by decide) (by omega) u9 x9_1 (rd l1 x11_1) [.int .i64 (rd l1 x11_1)] (fun k_ => some k_ ≠ (u10 : Value).ownBlock) (fun _ => False) rfl rfl ?aP (fun _ hk => hk.elim) ?aF ?aO ?aB ?aS ?aL ?_;(case aP => exact rfl);(case aB => exact (by exact bB));(case aF => exact (fun k_ hk => Kd.fresh' (Kd.R_lt (by exact rP HO_10.out)) k_ hk));(case aO => exact (by exact rP HO_9.out));(case aS => exact (below_size (by exact bB)));(case aL => have := LMc27.out;omega);intro v203 w31 ho hb hg hat;rw [← Ny202.out] at ho;have n0_ := aM (Kd.R_after (ok := (fun _ => True)) (by exact rP (Kd.R_mono HO_10.out (fun _ hk => ⟨trivial, hk⟩))) hg hat);have n1_ := aM (blk_grown (g := gb179) (o := .cells #[.int .i64 a0_0, .slice A0_1 l0_1.length c0_1] 29 (0, 0)) (by exact kP BK179.out) hg (Kd.R_ne HO_9.out BK179.out (by decide)));have n2_ := aM (hb);have n3_ := aM (ho);clear HO_10;clear BK179;clear HB;clear HO_9;have HO_10 := n0_;have BK179 := n1_;have HB := n2_;have HO204 := n3_;clear n0_ n1_ n2_ n3_;clear ho hb hg hat;have p205 : 0 ≤ (x11_1 : Int) := oA;have q205 : x11_1 < (l2.length : Int) := oA;obtain ⟨ad205, e205, hx205_0⟩ := Kd.at_int HR2.out x11_1 p205 q205;cases e205;replace hx205_0 := (HB.out.cell (World.block_lt_of_cell? w _ hx205_0)).trans hx205_0;replace p205 := eq_true p205;replace q205 := eq_true q205) | ((with_reducible refine gate_callee (f := 43) rfl ?_);refine goesL_ (some 45) rfl rfl Tryd.func43 (by kernel_rfl) rfl #[.slice (some ad193) l1.length c1, .int .i64 (rd l2 x11_1)] rfl mM ?_;(with_reducible refine (spec_l1Has.calls k1 _ _ l1 (rd l2 x11_1) true _ ?side1 ?side2 A29.out).mono ?_);(case side1 => exact cP (Kd.C_below HR1.out HB.out));(case side2 => exact HC1.out);rintro e w' ⟨rfl, ⟨nd, rfl⟩⟩;refine ⟨_, rfl, ?_⟩))
     go_roundg k1
     case measure => have := HK1.out;omega
     case rel => exact ⟨(y202), (x10_1), (wrap64 (x11_1 + 1)), eF, H', ⟨by have := HK1.out;omega⟩, ⟨by exact rP HO204.out⟩, ⟨by refine rP ?_;exact Kd.R_mono HO_10.out (fun _ hk => hk.2)⟩, ⟨by exact kP BK179.out⟩, ⟨by exact bB⟩⟩
    replace c30 := Bool.eq_false_iff.mpr c30
    subst c30
    rw [if_neg (show ¬ (false = true) by decide)] at H
    by_cases c32 : x10_1.length < 17592186044416
    rotate_left
    ·rw [if_neg c32] at H
     exact absurd H (by simp)
    rw [if_pos c32] at H
    have LMc32 := Aside0.mk c32
    clear c32
    obtain ⟨y208, hy208⟩ : ∃ y_ : List Int, y_ = (x10_1 ++ [rd l2 x11_1]) := ⟨_, rfl⟩
    replace H : (spec_l10Moves.l0 k1 l1 l2 y202 y208 (wrap64 (x11_1 + 1)) a0_0 l0_1) = some r := by first | (rw [hy208];with_reducible exact H) | (have H2_ := (Option.bind_some _ _).symm.trans H;rw [hy208];with_reducible exact H2_) | (have H2_ := (Option.bind_some _ _).symm.trans H;with_reducible exact H2_) | with_reducible exact H | (rw [hy208];exact H) | exact H
    have Ny208 := Aside0.mk hy208
    clear hy208
    have H' := Aside0.mk H
    clear H
    have p193 : 0 ≤ (x11_1 : Int) := oA
    have q193 : x11_1 < (l1.length : Int) := oA
    obtain ⟨ad193, e193, hx193_0⟩ := Kd.at_int HR1.out x11_1 p193 q193
    cases e193
    replace hx193_0 := (HB.out.cell (World.block_lt_of_cell? w _ hx193_0)).trans hx193_0
    replace p193 := eq_true p193
    replace q193 := eq_true q193
    go_wp2_with (first | ((with_reducible refine gate_callee (f := 43) rfl ?_);refine goesL_ (some 31) rfl rfl Tryd.func43 (by kernel_rfl) rfl #[.slice A2 l2.length c2, .int .i64 (rd l1 x11_1)] rfl mM ?_;(with_reducible refine (spec_l1Has.calls k1 _ _ l2 (rd l1 x11_1) false _ ?side1 ?side2 A20.out).mono ?_);(case side1 => exact cP (Kd.C_below HR2.out HB.out));(case side2 => exact HC2.out);rintro e w' ⟨rfl, ⟨nd, rfl⟩⟩;refine ⟨_, rfl, ?_⟩;have p201 : 0 ≤ (x11_1 : Int) := oA;have q201 : x11_1 < (l1.length : Int) := oA;obtain ⟨ad201, e201, hx201_0⟩ := Kd.at_int HR1.out x11_1 p201 q201;obtain rfl : ad193 = ad201 := (by injection e201);replace hx201_0 := (HB.out.cell (World.block_lt_of_cell? w _ hx201_0)).trans hx201_0;replace p201 := eq_true p201;replace q201 := eq_true q201) | ((with_reducible refine gate_builtin (b := .append) (xs := #[.tmp 33, .tmp 38]) rfl ?_);at_builtin;refine Kd.R_append (Kd.int .i64) (w0 := w) w.heap.size rfl (.tmp 33) (.tmp 38) 36 3 (.int .i64 0) 8 rfl Tryd.underlying36 info3 rfl (by decide) (by omega) u9 x9_1 (rd l1 x11_1) [.int .i64 (rd l1 x11_1)] (fun k_ => some k_ ≠ (u10 : Value).ownBlock) (fun _ => False) rfl rfl ?aP (fun _ hk => hk.elim) ?aF ?aO ?aB ?aS ?aL ?_;(case aP => exact rfl);(case aB => exact (by exact bB));(case aF => exact (fun k_ hk => Kd.fresh' (Kd.R_lt (by exact rP HO_10.out)) k_ hk));(case aO => exact (by exact rP HO_9.out));(case aS => exact (below_size (by exact bB)));(case aL => have := LMc27.out;omega);intro v203 w33 ho hb hg hat;rw [← Ny202.out] at ho;have n0_ := aM (Kd.R_after (ok := (fun _ => True)) (by exact rP (Kd.R_mono HO_10.out (fun _ hk => ⟨trivial, hk⟩))) hg hat);have n1_ := aM (blk_grown (g := gb179) (o := .cells #[.int .i64 a0_0, .slice A0_1 l0_1.length c0_1] 29 (0, 0)) (by exact kP BK179.out) hg (Kd.R_ne HO_9.out BK179.out (by decide)));have n2_ := aM (hb);have n3_ := aM (ho);clear HO_10;clear BK179;clear HB;clear HO_9;have HO_10 := n0_;have BK179 := n1_;have HB := n2_;have HO204 := n3_;clear n0_ n1_ n2_ n3_;clear ho hb hg hat;have p205 : 0 ≤ (x11_1 : Int) := oA;have q205 : x11_1 < (l2.length : Int) := oA;obtain ⟨ad205, e205, hx205_0⟩ := Kd.at_int HR2.out x11_1 p205 q205;cases e205;replace hx205_0 := (HB.out.cell (World.block_lt_of_cell? w _ hx205_0)).trans hx205_0;replace p205 := eq_true p205;replace q205 := eq_true q205) | ((with_reducible refine gate_callee (f := 43) rfl ?_);refine goesL_ (some 45) rfl rfl Tryd.func43 (by kernel_rfl) rfl #[.slice (some ad193) l1.length c1, .int .i64 (rd l2 x11_1)] rfl mM ?_;(with_reducible refine (spec_l1Has.calls k1 _ _ l1 (rd l2 x11_1) false _ ?side1 ?side2 A29.out).mono ?_);(case side1 => exact cP (Kd.C_below HR1.out HB.out));(case side2 => exact HC1.out);rintro e w' ⟨rfl, ⟨nd, rfl⟩⟩;refine ⟨_, rfl, ?_⟩;have p207 : 0 ≤ (x11_1 : Int) := oA;have q207 : x11_1 < (l2.length : Int) := oA;obtain ⟨ad207, e207, hx207_0⟩ := Kd.at_int HR2.out x11_1 p207 q207;obtain rfl : ad205 = ad207 := (by injection e207);replace hx207_0 := (HB.out.cell (World.block_lt_of_cell? w _ hx207_0)).trans hx207_0;replace p207 := eq_true p207;replace q207 := eq_true q207) | ((with_reducible refine gate_builtin (b := .append) (xs := #[.tmp 47, .tmp 52]) rfl ?_);at_builtin;refine Kd.R_append (Kd.int .i64) (w0 := w) w.heap.size rfl (.tmp 47) (.tmp 52) 36 3 (.int .i64 0) 8 rfl Tryd.underlying36 info3 rfl (by decide) (by omega) u10 x10_1 (rd l2 x11_1) [.int .i64 (rd l2 x11_1)] (fun k_ => some k_ ≠ (v203 : Value).ownBlock) (fun _ => False) rfl rfl ?aP (fun _ hk => hk.elim) ?aF ?aO ?aB ?aS ?aL ?_;(case aP => exact rfl);(case aB => exact (by exact bB));(case aF => exact (fun k_ hk => Kd.fresh' (Kd.R_lt (by exact rP HO204.out)) k_ hk));(case aO => exact (by refine rP ?_;exact Kd.R_mono HO_10.out (fun _ hk => hk.2)));(case aS => exact (below_size (by exact bB)));(case aL => have := LMc32.out;omega);intro v209 w34 ho hb hg hat;rw [← Ny208.out] at ho;have n0_ := aM (blk_grown (g := gb179) (o := .cells #[.int .i64 a0_0, .slice A0_1 l0_1.length c0_1] 29 (0, 0)) (by exact kP BK179.out) hg (Kd.R_ne HO_10.out BK179.out (by decide)));have n1_ := aM (Kd.R_after (ok := (fun _ => True)) (by exact rP (Kd.R_mono HO204.out (fun _ hk => ⟨trivial, hk⟩))) hg hat);have n2_ := aM (hb);have n3_ := aM (ho);clear BK179;clear HO204;clear HB;clear HO_10;have BK179 := n0_;have HO204 := n1_;have HB := n2_;have HO210 := n3_;clear n0_ n1_ n2_ n3_;clear ho hb hg hat))
    go_roundg k1
    case measure => have := HK1.out;omega
    case rel => exact ⟨(y202), (y208), (wrap64 (x11_1 + 1)), eF, H', ⟨by have := HK1.out;omega⟩, ⟨by refine rP ?_;exact Kd.R_mono HO204.out (fun _ hk => hk.2)⟩, ⟨by exact rP HO210.out⟩, ⟨by exact kP BK179.out⟩, ⟨by exact bB⟩⟩
   rw [if_neg c18] at H
   have c18b0 : decide (x11_1 < (l1.length : Int)) = false := decide_eq_false c18
   clear c18
   by_cases c35 : (x9_1.length : Int) = 1
   rotate_left
   ·rw [if_neg c35] at H
    have c35b0 : ((x9_1.length : Int) == 1) = false := beq_eq_false_iff_ne.mpr c35
    have c35b1 : ((x9_1.length : Int) != 1) = true := bne_iff_ne.mpr c35
    obtain rfl := Option.some.inj H
    try go_wp2
    have n0_ := aM (Kd.R_drew HO_9.out)
    have n1_ := aM (Kd.R_drew HO_10.out)
    have n2_ := aM (blk_drew BK179.out)
    have n3_ := aM (below_drew1 HB.out)
    clear HO_9
    clear HO_10
    clear BK179
    clear HB
    have HO_9 := n0_
    have HO_10 := n1_
    have BK179 := n2_
    have HB := n3_
    clear n0_ n1_ n2_ n3_
    obtain ⟨Ao44, co44, eo44⟩ := Kd.R_slice HO_9.out
    (first | subst eo44 | (injection eo44 with f1_ f2_ f3_;have f4_ := f1_.symm;have f5_ := f3_.symm;clear f1_ f2_ f3_;subst f4_;subst f5_))
    refine start_ (n := 14) (S := fun w' => True) (ds := []) (pT 0 14) (by kernel_rfl) rfl rfl trivial (fun hHeld => ?_);refine with_tabW spec_l10Moves.tab11 spec_l10Moves.bits11 (fun HT_ HW_ => ?_)
    generalize wr.drew = w43 at HO_9 HO_10 BK179 HB hHeld ⊢
    refine pure_ (i := 0) (N := some 54) (v := ?_) (a' := ?_) (pT 1 13) rfl rfl (any_of HT_.out (by kernel_rfl)) (fun _ _ _ h => h) (Or.inl ⟨by rfl, ?_⟩) ?_ ?_
    rotate_left
    ·intro w'
     go_simp
     with_reducible rfl
    rotate_left
    ·exact aP
    refine pure_ (i := 1) (N := some 55) (v := ?_) (a' := ?_) (pT 2 12) rfl rfl (any_of HT_.out (by kernel_rfl)) (fun _ _ _ h => h) (Or.inl ⟨by rfl, ?_⟩) ?_ ?_
    rotate_left
    ·intro w'
     go_simp
     with_reducible rfl
    rotate_left
    ·exact aP
    refine pure_ (i := 2) (N := some 56) (v := ?_) (a' := ?_) (pT 3 11) rfl rfl (any_of HT_.out (by kernel_rfl)) (fun _ _ _ h => h) (Or.inl ⟨by rfl, ?_⟩) ?_ ?_
    rotate_left
    ·intro w'
     go_simp
     with_reducible rfl
    rotate_left
    ·exact aP
    refine pure_ (i := 3) (N := some 57) (v := ?_) (a' := ?_) (pT 4 10) rfl rfl (any_of HT_.out (by kernel_rfl)) (fun _ _ _ h => h) (Or.inl ⟨by rfl, ?_⟩) ?_ ?_
    rotate_left
    ·intro w'
     go_simp
     with_reducible rfl
    rotate_left
    ·exact aP
    refine pure_ (i := 4) (N := some 58) (v := undef) (a' := ?_) (pT 5 9) rfl rfl (any_of HT_.out (by kernel_rfl)) (fun _ _ _ h => h) (Or.inr ⟨by rfl, rfl⟩) ?_ ?_
    rotate_left
    ·exact aP
    refine pure_ (i := 5) (N := some 59) (v := undef) (a' := ?_) (pT 6 8) rfl rfl (any_of HT_.out (by kernel_rfl)) (fun _ _ _ h => h) (Or.inr ⟨by rfl, rfl⟩) ?_ ?_
    rotate_left
    ·exact aP
    refine pure_ (i := 6) (N := some 60) (v := undef) (a' := ?_) (pT 7 7) rfl rfl (any_of HT_.out (by kernel_rfl)) (fun _ _ _ h => h) (Or.inr ⟨by rfl, rfl⟩) ?_ ?_
    rotate_left
    ·exact aP
    refine pure_ (i := 7) (N := some 61) (v := undef) (a' := ?_) (pT 8 6) rfl rfl (any_of HT_.out (by kernel_rfl)) (fun _ _ _ h => h) (Or.inr ⟨by rfl, rfl⟩) ?_ ?_
    rotate_left
    ·exact aP
    refine pure_ (i := 8) (N := some 62) (v := undef) (a' := ?_) (pT 9 5) rfl rfl (any_of HT_.out (by kernel_rfl)) (fun _ _ _ h => h) (Or.inr ⟨by rfl, rfl⟩) ?_ ?_
    rotate_left
    ·exact aP
    refine pure_ (i := 9) (N := some 63) (v := undef) (a' := ?_) (pT 10 4) rfl rfl (any_of HT_.out (by kernel_rfl)) (fun _ _ _ h => h) (Or.inr ⟨by rfl, rfl⟩) ?_ ?_
    rotate_left
    ·exact aP
    refine pure_ (i := 10) (N := some 64) (v := undef) (a' := ?_) (pT 11 3) rfl rfl (any_of HT_.out (by kernel_rfl)) (fun _ _ _ h => h) (Or.inr ⟨by rfl, rfl⟩) ?_ ?_
    rotate_left
    ·exact aP
    refine pure_ (i := 11) (N := some 65) (v := undef) (a' := ?_) (pT 12 2) rfl rfl (any_of HT_.out (by kernel_rfl)) (fun _ _ _ h => h) (Or.inr ⟨by rfl, rfl⟩) ?_ ?_
    rotate_left
    ·exact aP
    refine pure_ (i := 12) (N := some 66) (v := ?_) (a' := ?_) (pT 13 1) rfl rfl (any_of HT_.out (by kernel_rfl)) (fun _ _ _ h => h) (Or.inl ⟨by rfl, ?_⟩) ?_ ?_
    rotate_left
    ·intro w'
     go_simp
     with_reducible rfl
    rotate_left
    ·exact aP
    refine pure_ (i := 13) (N := some 8) (v := ?_) (a' := ?_) (pT 14 0) rfl rfl (any_of HT_.out (by kernel_rfl)) (fun _ _ _ h => h) (Or.inl ⟨by rfl, ?_⟩) ?_ ?_
    rotate_left
    ·intro w'
     go_simp
     with_reducible rfl
    rotate_left
    ·exact aP
    refine done_ (done_of HT_.out (by kernel_rfl)) ?_
    try go_wp2
    go_ret
    exact ⟨eW, by exact bB⟩
   rw [if_pos c35] at H
   have c35b0 : ((x9_1.length : Int) == 1) = true := beq_iff_eq.mpr c35
   have c35b1 : ((x9_1.length : Int) != 1) = false := bne_eq_false_iff_eq.mpr c35
   clear c35
   by_cases c36 : 0 < (x9_1.length : Int)
   rotate_left
   ·rw [if_neg c36] at H
    exact absurd H (by simp)
   rw [if_pos c36] at H
   have c36b0 : decide (0 < (x9_1.length : Int)) = true := decide_eq_true c36
   have c36b1 : decide (0 < x9_1.length) = true := decide_eq_true (by omega)
   clear c36
   by_cases c37 : 0 < (x10_1.length : Int)
   rotate_left
   ·rw [if_neg c37] at H
    exact absurd H (by simp)
   rw [if_pos c37] at H
   have c37b0 : decide (0 < (x10_1.length : Int)) = true := decide_eq_true c37
   have c37b1 : decide (0 < x10_1.length) = true := decide_eq_true (by omega)
   clear c37
   replace H := Option.bind_eq_some_iff.mp H
   obtain ⟨t192, A380, H⟩ := H
   try dsimp only at H
   have A38 := Aside0.mk A380
   clear A380
   obtain rfl := Option.some.inj H
   try go_wp2
   have n0_ := aM (Kd.R_drew HO_9.out)
   have n1_ := aM (Kd.R_drew HO_10.out)
   have n2_ := aM (blk_drew BK179.out)
   have n3_ := aM (below_drew1 HB.out)
   clear HO_9
   clear HO_10
   clear BK179
   clear HB
   have HO_9 := n0_
   have HO_10 := n1_
   have BK179 := n2_
   have HB := n3_
   clear n0_ n1_ n2_ n3_
   obtain ⟨Ao40, co40, eo40⟩ := Kd.R_slice HO_9.out
   (first | subst eo40 | (injection eo40 with f1_ f2_ f3_;have f4_ := f1_.symm;have f5_ := f3_.symm;clear f1_ f2_ f3_;subst f4_;subst f5_))
   have p190 : 0 ≤ (0 : Int) := (by omega)
   have q190 : 0 < (x9_1.length : Int) := oA
   obtain ⟨ad190, e190, hx190_0⟩ := Kd.at_int (Kd.R_reads' HO_9.out).2.2 0 p190 q190
   cases e190
   have qi190 : (0 < x9_1.length) = True := eq_true (by omega)
   (try rw [show ((0 : Int)).toNat = 0 from rfl] at hx190_0)
   (try rw [Addr.add_zero'] at hx190_0)
   replace p190 := eq_true p190
   replace q190 := eq_true q190
   obtain ⟨Ao41, co41, eo41⟩ := Kd.R_slice HO_10.out
   (first | subst eo41 | (injection eo41 with f1_ f2_ f3_;have f4_ := f1_.symm;have f5_ := f3_.symm;clear f1_ f2_ f3_;subst f4_;subst f5_))
   have p191 : 0 ≤ (0 : Int) := (by omega)
   have q191 : 0 < (x10_1.length : Int) := oA
   obtain ⟨ad191, e191, hx191_0⟩ := Kd.at_int (Kd.R_reads' HO_10.out).2.2 0 p191 q191
   cases e191
   have qi191 : (0 < x10_1.length) = True := eq_true (by omega)
   (try rw [show ((0 : Int)).toNat = 0 from rfl] at hx191_0)
   (try rw [Addr.add_zero'] at hx191_0)
   replace p191 := eq_true p191
   replace q191 := eq_true q191
   refine start_ (n := 14) (S := fun w' => w'.cell? ⟨gb179, 0, none⟩ = some (.int .i64 a0_0) ∧ w'.cell? ⟨gb179, 1, none⟩ = some (.slice A0_1 l0_1.length c0_1) ∧ w'.cell? ad190 = some (.int .i64 (rd x9_1 0)) ∧ w'.cell? ad191 = some (.int .i64 (rd x10_1 0))) (ds := []) (pT 0 14) (by kernel_rfl) rfl rfl ⟨(blk_cell BK179.out 0).trans rfl, (blk_cell BK179.out 1).trans rfl, hx190_0, hx191_0⟩ (fun hHeld => ?_);refine with_tabW spec_l10Moves.tab11 spec_l10Moves.bits11 (fun HT_ HW_ => ?_)
   generalize wr.drew = w39 at HO_9 HO_10 BK179 HB hx190_0 hx191_0 hHeld ⊢
   refine pure_ (i := 0) (N := some 54) (v := ?_) (a' := ?_) (pT 1 13) rfl rfl (any_of HT_.out (by kernel_rfl)) (fun _ _ _ h => h) (Or.inl ⟨by rfl, ?_⟩) ?_ ?_
   rotate_left
   ·intro w'
    go_simp
    with_reducible rfl
   rotate_left
   ·exact aP
   refine pure_ (i := 1) (N := some 55) (v := ?_) (a' := ?_) (pT 2 12) rfl rfl (any_of HT_.out (by kernel_rfl)) (fun _ _ _ h => h) (Or.inl ⟨by rfl, ?_⟩) ?_ ?_
   rotate_left
   ·intro w'
    go_simp
    with_reducible rfl
   rotate_left
   ·exact aP
   refine pure_ (i := 2) (N := some 56) (v := ?_) (a' := ?_) (pT 3 11) rfl rfl (any_of HT_.out (by kernel_rfl)) (fun _ _ _ h => h) (Or.inl ⟨by rfl, ?_⟩) ?_ ?_
   rotate_left
   ·intro w'
    go_simp
    with_reducible rfl
   rotate_left
   ·exact aP
   refine pure_ (i := 3) (N := some 57) (v := ?_) (a' := ?_) (pT 4 10) rfl rfl (any_of HT_.out (by kernel_rfl)) (fun _ _ _ h => h) (Or.inl ⟨by rfl, ?_⟩) ?_ ?_
   rotate_left
   ·intro w'
    go_simp
    with_reducible rfl
   rotate_left
   ·exact aP
   refine pure_ (i := 5) (N := some 59) (v := ?_) (a' := ?_) #[true,true,true,true,false,true,false,false,false,false,false,false,false,false] rfl rfl (any_of HT_.out (by kernel_rfl)) (fun _ _ _ h => h) (Or.inl ⟨by rfl, ?_⟩) ?_ ?_
   rotate_left
   ·intro w'
    go_simp
    with_reducible rfl
   rotate_left
   ·exact aP
   refine pure_ (i := 6) (N := some 60) (v := ?_) (a' := ?_) #[true,true,true,true,false,true,true,false,false,false,false,false,false,false] rfl rfl (any_of HT_.out (by kernel_rfl)) (fun _ _ _ h => h) (Or.inl ⟨by rfl, ?_⟩) ?_ ?_
   rotate_left
   ·intro w'
    go_simp
    with_reducible rfl
   rotate_left
   ·exact aP
   refine pure_ (i := 8) (N := some 62) (v := ?_) (a' := ?_) #[true,true,true,true,false,true,true,false,true,false,false,false,false,false] rfl rfl (any_of HT_.out (by kernel_rfl)) (fun _ _ _ h => h) (Or.inl ⟨by rfl, ?_⟩) ?_ ?_
   rotate_left
   ·intro w'
    go_simp
    with_reducible rfl
   rotate_left
   ·exact aP
   refine pure_ (i := 9) (N := some 63) (v := ?_) (a' := ?_) #[true,true,true,true,false,true,true,false,true,true,false,false,false,false] rfl rfl (any_of HT_.out (by kernel_rfl)) (fun _ _ _ h => h) (Or.inl ⟨by rfl, ?_⟩) ?_ ?_
   rotate_left
   ·intro w'
    go_simp
    with_reducible rfl
   rotate_left
   ·exact aP
   refine take_ (i := 4) (N := some 58) (v := ?_) (a' := ?_) #[true,true,true,true,true,true,true,false,true,true,false,false,false,false] rfl rfl (take_ofW HT_.out HW_.out (by kernel_rfl)) (fun _ _ _ h => h) (Or.inl ⟨by rfl, ?_⟩) hHeld ?_ ?_
   rotate_left
   ·rintro w' ⟨s0, s1, s2, s3⟩
    go_simp
    with_reducible rfl
   rotate_left
   ·exact aP
   refine take_ (i := 7) (N := some 61) (v := ?_) (a' := ?_) (pT 10 4) rfl rfl (take_ofW HT_.out HW_.out (by kernel_rfl)) (fun _ _ _ h => h) (Or.inl ⟨by rfl, ?_⟩) hHeld ?_ ?_
   rotate_left
   ·rintro w' ⟨s0, s1, s2, s3⟩
    go_simp
    with_reducible rfl
   rotate_left
   ·exact aP
   refine take_ (i := 10) (N := some 64) (v := ?_) (a' := ?_) (pT 11 3) rfl rfl (take_ofW HT_.out HW_.out (by kernel_rfl)) (fun _ _ _ h => h) (Or.inl ⟨by rfl, ?_⟩) hHeld ?_ ?_
   rotate_left
   ·rintro w' ⟨s0, s1, s2, s3⟩
    go_simp
    with_reducible rfl
   rotate_left
   ·exact aP
   refine one_ (i := 11) (N := some 65) (pT 12 2) rfl rfl (one_of HT_.out (by kernel_rfl)) (by decide) (fun K hK => ?_)
   refine goes_ Tryd.func103 (by kernel_rfl) rfl #[.agg #[.int .i64 a0_0, .slice A0_1 l0_1.length c0_1], .int .i64 (rd x9_1 0), .int .i64 (rd x10_1 0)] (by rfl) rfl rfl mM ?_
   with_reducible refine (spec_l2Near.calls k1 a0_0 _ _ l0_1 (rd x9_1 0) (rd x10_1 0) t192 _ ?side1 ?side2 A38.out).mono ?_
   (case side1 => exact cP (Kd.C_below HR0_1.out HB.out))
   (case side2 => exact HC0_1.out)
   rintro e w42 ⟨rfl, hb⟩
   have HS2_ := (hb.cell (World.block_lt_of_cell? _ _ (hHeld.2.2.1))).trans (hHeld.2.2.1)
   have HS3_ := (hb.cell (World.block_lt_of_cell? _ _ (hHeld.2.2.2))).trans (hHeld.2.2.2)
   refine ⟨_, rfl, ?_⟩
   have n0_ := aM (Kd.R_below (by exact rP HO_9.out) hb)
   have n1_ := aM (Kd.R_below (by exact rP HO_10.out) hb)
   have n2_ := aM (kB hb BK179.out)
   have n3_ := aM (below_step (by exact bB) hb)
   clear HO_9
   clear HO_10
   clear BK179
   clear HB
   have HO_9 := n0_
   have HO_10 := n1_
   have BK179 := n2_
   have HB := n3_
   clear n0_ n1_ n2_ n3_
   (try clear hb)
   (try clear hb2)
   (try clear hk)
   (try clear hi)
   refine hK.out _ _ ⟨(blk_cell BK179.out 0).trans rfl, (blk_cell BK179.out 1).trans rfl, HS2_, HS3_⟩ (fun hHeld => ?_)
   clear hK K
   refine norm_ (a' := ?_) ?_ ?_
   rotate_left
   ·show Act.put _ (some 65) _ = _
    simp only [Act.put, List.setIfInBounds_toArray, List.set_cons_zero, List.set_cons_succ, i64_w, i32_w]
    rfl
   refine pure_ (i := 12) (N := some 66) (v := ?_) (a' := ?_) (pT 13 1) rfl rfl (any_of HT_.out (by kernel_rfl)) (fun _ _ _ h => h) (Or.inl ⟨by rfl, ?_⟩) ?_ ?_
   rotate_left
   ·intro w'
    go_simp
    with_reducible rfl
   rotate_left
   ·exact aP
   refine pure_ (i := 13) (N := some 8) (v := ?_) (a' := ?_) (pT 14 0) rfl rfl (any_of HT_.out (by kernel_rfl)) (fun _ _ _ h => h) (Or.inl ⟨by rfl, ?_⟩) ?_ ?_
   rotate_left
   ·intro w'
    go_simp
    with_reducible rfl
   rotate_left
   ·exact aP
   refine done_ (done_of HT_.out (by kernel_rfl)) ?_
   try go_wp2
   go_ret
   exact ⟨eW, by exact bB⟩


/-! ### spec_l10Answers: function 72 -/
def spec_l10Answers.l0 : Nat → List (List Int) → Int → Int → Bool → List Int → Int → Int → List (S78) → Option (List Int)
 | 0, _, _, _, _, _, _, _, _ => none
 | k + 1, x1, x2, x3, x4, x11, x12, x212000, x212001 => if x12 < (x1.length : Int) then (if 0 ≤ x12 then ((spec_l1Has.f k (rd_L2 x1 x12) x3).bind fun t216 => (if t216 = true then (if 0 ≤ x2 then (if x2 < (x1.length : Int) then ((spec_l10Moves.f k x212000 x212001 (rd_L2 x1 x2) (rd_L2 x1 x12) x4).bind fun t219 => (if t219 = true then (if x11.length < 17592186044416 then (spec_l10Answers.l0 k x1 x2 x3 x4 (x11 ++ [x12]) (wrap64 (x12 + 1)) x212000 x212001) else (none)) else (spec_l10Answers.l0 k x1 x2 x3 x4 x11 (wrap64 (x12 + 1)) x212000 x212001))) else (none)) else (none)) else (spec_l10Answers.l0 k x1 x2 x3 x4 x11 (wrap64 (x12 + 1)) x212000 x212001))) else (none)) else (some x11)
def spec_l10Answers.f (k : Nat) (a0_0 : Int) (l0_1 : List (S78)) (l1 : List (List Int)) (a2 : Int) (a3 : Int) (a4 : Bool) : Option (List Int) := spec_l10Answers.l0 k l1 a2 a3 a4 (([] : List Int)) 0 a0_0 l0_1
theorem spec_l10Answers.mono_l : ∀ k, (∀ y0 y1 y2 y3 y4 y5 y6 y7, LeO (spec_l10Answers.l0 k y0 y1 y2 y3 y4 y5 y6 y7) (spec_l10Answers.l0 (k + 1) y0 y1 y2 y3 y4 y5 y6 y7))
 | 0 => fun _ _ _ _ _ _ _ _ r h => by simp [spec_l10Answers.l0] at h
 | k + 1 => by
  have ih0 := spec_l10Answers.mono_l k
  ·intro y0 y1 y2 y3 y4 y5 y6 y7
   unfold spec_l10Answers.l0
   have q0 := spec_l10Moves.mono
   have q1 := spec_l1Has.mono
   exact lM
theorem spec_l10Answers.mono : ∀ a0 a1 a2 a3 a4 a5 k, LeO (spec_l10Answers.f k a0 a1 a2 a3 a4 a5) (spec_l10Answers.f (k + 1) a0 a1 a2 a3 a4 a5) := by
 intro a0 a1 a2 a3 a4 a5 k
 have ih0 := spec_l10Answers.mono_l k
 unfold spec_l10Answers.f
 have q0 := spec_l10Moves.mono
 have q1 := spec_l1Has.mono
 exact lM
def spec_l10Answers.T5 : Bool × List (List Nat × List Nat) := (true, [([], []), ([], []), ([0, 1], [0, 1]), ([2], [2]), ([], []), ([3, 4], [3, 4]), ([5, 5], [5]), ([6], [6]), ([6], [6]), ([6], [6]), ([8, 9, 6], [6, 8, 9]), ([10, 6], [6, 10]), ([6], [6]), ([6], [6]), ([12, 13, 6], [6, 12, 13]), ([14, 6], [6, 14]), ([6], [6]), ([7, 11, 15, 16, 6, 6], [6, 7, 11, 15, 16]), ([6, 17], [6, 17])])
def spec_l10Answers.B5 : List Nat := [0, 0, 3, 7, 0, 31, 63, 127, 127, 127, 895, 1919, 127, 127, 12415, 28799, 127, 131071, 262143]
theorem spec_l10Answers.tab5 : rtab .any (opsOf Tryd.f72 5) = spec_l10Answers.T5 := by kernel_rfl
theorem spec_l10Answers.bits5 : waitsOk spec_l10Answers.T5.2 spec_l10Answers.B5 = true := by kernel_rfl
theorem spec_l10Answers.calls (k : Nat) (a0_0 : Int) (A0_1 : Option Addr) (c0_1 : Nat) (l0_1 : List (S78)) (A1 : Option Addr) (c1 : Nat) (l1 : List (List Int)) (a2 : Int) (a3 : Int) (a4 : Bool) (r : List Int) (w : World) (hr0_1 : Kd.C k78 w A0_1 l0_1.length l0_1) (hc0_1 : l0_1.length ≤ c0_1) (hr1 : Kd.C (Kd.slice 3 (Kd.int .i64)) w A1 l1.length l1) (hc1 : l1.length ≤ c1) (h : spec_l10Answers.f k a0_0 l0_1 l1 a2 a3 a4 = some r) :
  Calls Tryd.prog 72 #[.agg #[.int .i64 a0_0, .slice A0_1 l0_1.length c0_1], .slice A1 l1.length c1, .int .i64 a2, .int .i64 a3, .bool a4] w fun e w' => ∃ v0_ : Value, e = .returned (v0_) ∧ Kd.R (Kd.int .i64) 3 w' w.heap.size (fun _ => True) v0_ r ∧ Below w.heap.size w w' := by
 have hu29 := Tryd.underlying29
 have HR0_1 := Aside0.mk hr0_1
 have HC0_1 := Aside0.mk hc0_1
 clear hr0_1 hc0_1
 have HR1 := Aside0.mk hr1
 have HC1 := Aside0.mk hc1
 clear hr1 hc1
 have HB := aM (Below.refl w.heap.size w)
 have H : (spec_l10Answers.l0 k l1 a2 a3 a4 (([] : List Int)) 0 a0_0 l0_1) = some r := h
 clear h
 obtain ⟨y212, hy212⟩ : ∃ y_ : List Int, y_ = (([] : List Int)) := ⟨_, rfl⟩
 replace H : (spec_l10Answers.l0 k l1 a2 a3 a4 y212 0 a0_0 l0_1) = some r := by first | (rw [hy212];with_reducible exact H) | (have H2_ := (Option.bind_some _ _).symm.trans H;rw [hy212];with_reducible exact H2_) | (have H2_ := (Option.bind_some _ _).symm.trans H;with_reducible exact H2_) | with_reducible exact H | (rw [hy212];exact H) | exact H
 have Ny212 := Aside0.mk hy212
 clear hy212
 have H' := Aside0.mk H
 clear H
 go_enter Tryd.func72, Tryd.ntmps72
 go_wp2_with (first | ((with_reducible refine gate_dst (N := 5) rfl ?_);refine box_event ?hg (N := 5) ?hd (cs := #[.int .i64 a0_0, .slice A0_1 l0_1.length c0_1]) (t := 29) ?hr ?_;(case hd => rfl);(case hg => rfl);(case hr => exact gS);intro gb211 hg w6 hbox hb;have n0_ := aM (below_step (by exact bB) hb);have n1_ := aM (hbox);have n2_ := aM (sW hg : w.heap.size ≤ gb211);have n3_ := aM (sW hg : w.heap.size ≤ gb211);clear HB;have HB := n0_;have BK211 := n1_;have GW211 := n2_;have GE211 := n3_;clear n0_ n1_ n2_ n3_;clear hb hbox hg) | ((with_reducible refine gate_dst (N := 13) rfl ?_);refine Kd.R_lit (Kd.int .i64) _ 3 ?hg (N := 13) ?hd (xs := ([] : List Int)) (inner := []) (ok := fun _ => True) (okp := fun _ => True) ?hr ?hp (fun _ hk => hk) trivial (Below.refl _ _) (Nat.le_refl _) (by simp) ?_;(case hd => rfl);(case hg => rfl);(case hr => exact gS);(case hp => exact (Reps.none _ _));intro v213 w7 ho8 hb hg_ hnew_;clear hg_ hnew_;(first | rw [← Ny212.out] at ho8 | (simp only [Int.reduceToNat] at ho8;rw [← Ny212.out] at ho8));have n0_ := aM (Kd.R_lower ho8 (below_size (by exact bB)));have n1_ := aM (kB hb BK211.out);have n2_ := aM (below_step (by exact bB) hb);clear BK211;clear HB;have HO214 := n0_;have BK211 := n1_;have HB := n2_;clear n0_ n1_ n2_;clear hb ho8))
 go_loopg [11, 12] k (fun kq v11 v12 w' => ∃ (x11_1 : List Int) (x12_1 : Int), v12 = .int .i64 x12_1 ∧ Aside0 (spec_l10Answers.l0 kq l1 a2 a3 a4 x11_1 x12_1 a0_0 l0_1 = some r) ∧ Aside0 (kq ≤ k) ∧ Aside0 (Kd.R (Kd.int .i64) 3 w' w.heap.size (fun _ => True) v11 x11_1) ∧ Aside0 (w'.heap[gb211]? = some (.cells #[.int .i64 a0_0, (.slice A0_1 l0_1.length c0_1)] 29 (0, 0))) ∧ Aside0 (Below w.heap.size w w'))
 case atStart => exact ⟨(y212), (0), eF, H', ⟨Nat.le_refl _⟩, ⟨by exact rP HO214.out⟩, ⟨by exact kP BK211.out⟩, ⟨by exact bB⟩⟩
 case round =>
  clear H'
  try clear c1
  try clear p2
  try clear c7
  obtain ⟨x11_1, x12_1, rfl, HA, HK1, HO_11, BK211, HB⟩ := hrel
  cases gk with
  | zero => exact absurd HA.out (by simp [spec_l10Answers.l0])
  | succ k1 =>
   have H := HA.out
   clear HA
   simp only [spec_l10Answers.l0] at H
   by_cases c9 : x12_1 < (l1.length : Int)
   rotate_left
   ·rw [if_neg c9] at H
    have c9b0 : decide (x12_1 < (l1.length : Int)) = false := decide_eq_false c9
    clear c9
    obtain rfl := Option.some.inj H
    go_wp2
    go_ret
    exact ⟨_, eW, by exact rP HO_11.out, by exact bB⟩
   rw [if_pos c9] at H
   have c9b0 : decide (x12_1 < (l1.length : Int)) = true := decide_eq_true c9
   clear c9
   by_cases c10 : 0 ≤ x12_1
   rotate_left
   ·rw [if_neg c10] at H
    exact absurd H (by simp)
   rw [if_pos c10] at H
   have c10b0 : decide (0 ≤ x12_1) = true := decide_eq_true c10
   clear c10
   replace H := Option.bind_eq_some_iff.mp H
   obtain ⟨t216, A110, H⟩ := H
   try dsimp only at H
   have A11 := Aside0.mk A110
   clear A110
   by_cases c12 : t216 = true
   rotate_left
   ·replace c12 := Bool.eq_false_iff.mpr c12
    subst c12
    rw [if_neg (show ¬ (false = true) by decide)] at H
    have H' := Aside0.mk H
    clear H
    try go_wp2
    have n0_ := aM (Kd.R_drew HO_11.out)
    have n1_ := aM (blk_drew BK211.out)
    have n2_ := aM (below_drew1 HB.out)
    clear HO_11
    clear BK211
    clear HB
    have HO_11 := n0_
    have BK211 := n1_
    have HB := n2_
    clear n0_ n1_ n2_
    have p215 : 0 ≤ (x12_1 : Int) := oA
    have q215 : x12_1 < (l1.length : Int) := oA
    obtain ⟨ad215, A215_0, c215_0, e215, hx215_0, hl215_0, hi215_0⟩ := at_L2 HR1.out x12_1 p215 q215
    have hw215_0 := hx215_0
    cases e215
    replace hx215_0 := (HB.out.cell (World.block_lt_of_cell? w _ hx215_0)).trans hx215_0
    have HR215_0 := Aside0.mk hi215_0
    have HC215_0 := Aside0.mk hl215_0
    clear hi215_0 hl215_0
    replace p215 := eq_true p215
    replace q215 := eq_true q215
    refine start_ (n := 19) (S := fun w' => w'.cell? (ad215.add (x12_1).toNat) = some (.slice A215_0 (rd_L2 l1 x12_1).length c215_0)) (ds := []) (pT 0 19) (by kernel_rfl) rfl rfl (((HB.out.cell (World.block_lt_of_cell? w _ hw215_0)).trans hw215_0)) (fun hHeld => ?_);refine with_tabW spec_l10Answers.tab5 spec_l10Answers.bits5 (fun HT_ HW_ => ?_)
    generalize wr.drew = w23 at HO_11 BK211 HB HR215_0 hx215_0 hHeld ⊢
    refine pure_ (i := 0) (N := some 20) (v := ?_) (a' := ?_) (pT 1 18) rfl rfl (any_of HT_.out (by kernel_rfl)) (fun _ _ _ h => h) (Or.inl ⟨by rfl, ?_⟩) ?_ ?_
    rotate_left
    ·intro w'
     go_simp
     with_reducible rfl
    rotate_left
    ·exact aP
    refine pure_ (i := 1) (N := some 21) (v := ?_) (a' := ?_) (pT 2 17) rfl rfl (any_of HT_.out (by kernel_rfl)) (fun _ _ _ h => h) (Or.inl ⟨by rfl, ?_⟩) ?_ ?_
    rotate_left
    ·intro w'
     go_simp
     with_reducible rfl
    rotate_left
    ·exact aP
    refine pure_ (i := 2) (N := some 22) (v := ?_) (a' := ?_) (pT 3 16) rfl rfl (any_of HT_.out (by kernel_rfl)) (fun _ _ _ h => h) (Or.inl ⟨by rfl, ?_⟩) ?_ ?_
    rotate_left
    ·intro w'
     go_simp
     with_reducible rfl
    rotate_left
    ·exact aP
    refine pure_ (i := 4) (N := some 24) (v := ?_) (a' := ?_) #[true,true,true,false,true,false,false,false,false,false,false,false,false,false,false,false,false,false,false] rfl rfl (any_of HT_.out (by kernel_rfl)) (fun _ _ _ h => h) (Or.inl ⟨by rfl, ?_⟩) ?_ ?_
    rotate_left
    ·intro w'
     go_simp
     with_reducible rfl
    rotate_left
    ·exact aP
    refine take_ (i := 3) (N := some 23) (v := ?_) (a' := ?_) (pT 5 14) rfl rfl (take_ofW HT_.out HW_.out (by kernel_rfl)) (fun _ _ _ h => h) (Or.inl ⟨by rfl, ?_⟩) hHeld ?_ ?_
    rotate_left
    ·intro w' s0
     go_simp
     with_reducible rfl
    rotate_left
    ·exact aP
    refine one_ (i := 5) (N := some 25) (pT 6 13) rfl rfl (one_of HT_.out (by kernel_rfl)) (by decide) (fun K hK => ?_)
    refine goes_ Tryd.func43 (by kernel_rfl) rfl #[.slice A215_0 (rd_L2 l1 x12_1).length c215_0, .int .i64 a3] (by rfl) rfl rfl mM ?_
    with_reducible refine (spec_l1Has.calls k1 _ _ (rd_L2 l1 x12_1) a3 false _ ?side1 ?side2 A11.out).mono ?_
    (case side1 => exact cP (Kd.C_below HR215_0.out HB.out))
    (case side2 => exact HC215_0.out)
    rintro e w' ⟨rfl, ⟨nd, rfl⟩⟩
    refine ⟨_, rfl, ?_⟩
    refine hK.out _ _ (((HB.out.cell (World.block_lt_of_cell? w _ hw215_0)).trans hw215_0)) (fun hHeld => ?_)
    clear hK K
    refine norm_ (a' := ?_) ?_ ?_
    rotate_left
    ·show Act.put _ (some 25) _ = _
     simp only [Act.put, List.setIfInBounds_toArray, List.set_cons_zero, List.set_cons_succ, i64_w, i32_w]
     rfl
    refine pure_ (i := 6) (N := some 26) (v := ?_) (a' := ?_) (pT 7 12) rfl rfl (any_of HT_.out (by kernel_rfl)) (fun _ _ _ h => h) (Or.inl ⟨by rfl, ?_⟩) ?_ ?_
    rotate_left
    ·intro w'
     go_simp
     with_reducible rfl
    rotate_left
    ·exact aP
    refine pure_ (i := 7) (N := some 27) (v := undef) (a' := ?_) (pT 8 11) rfl rfl (any_of HT_.out (by kernel_rfl)) (fun _ _ _ h => h) (Or.inr ⟨by rfl, rfl⟩) ?_ ?_
    rotate_left
    ·exact aP
    refine pure_ (i := 8) (N := some 28) (v := undef) (a' := ?_) (pT 9 10) rfl rfl (any_of HT_.out (by kernel_rfl)) (fun _ _ _ h => h) (Or.inr ⟨by rfl, rfl⟩) ?_ ?_
    rotate_left
    ·exact aP
    refine pure_ (i := 9) (N := some 29) (v := undef) (a' := ?_) (pT 10 9) rfl rfl (any_of HT_.out (by kernel_rfl)) (fun _ _ _ h => h) (Or.inr ⟨by rfl, rfl⟩) ?_ ?_
    rotate_left
    ·exact aP
    refine pure_ (i := 10) (N := some 30) (v := undef) (a' := ?_) (pT 11 8) rfl rfl (any_of HT_.out (by kernel_rfl)) (fun _ _ _ h => h) (Or.inr ⟨by rfl, rfl⟩) ?_ ?_
    rotate_left
    ·exact aP
    refine pure_ (i := 11) (N := some 31) (v := undef) (a' := ?_) (pT 12 7) rfl rfl (any_of HT_.out (by kernel_rfl)) (fun _ _ _ h => h) (Or.inr ⟨by rfl, rfl⟩) ?_ ?_
    rotate_left
    ·exact aP
    refine pure_ (i := 12) (N := some 32) (v := undef) (a' := ?_) (pT 13 6) rfl rfl (any_of HT_.out (by kernel_rfl)) (fun _ _ _ h => h) (Or.inr ⟨by rfl, rfl⟩) ?_ ?_
    rotate_left
    ·exact aP
    refine pure_ (i := 13) (N := some 33) (v := undef) (a' := ?_) (pT 14 5) rfl rfl (any_of HT_.out (by kernel_rfl)) (fun _ _ _ h => h) (Or.inr ⟨by rfl, rfl⟩) ?_ ?_
    rotate_left
    ·exact aP
    refine pure_ (i := 14) (N := some 34) (v := undef) (a' := ?_) (pT 15 4) rfl rfl (any_of HT_.out (by kernel_rfl)) (fun _ _ _ h => h) (Or.inr ⟨by rfl, rfl⟩) ?_ ?_
    rotate_left
    ·exact aP
    refine pure_ (i := 15) (N := some 35) (v := undef) (a' := ?_) (pT 16 3) rfl rfl (any_of HT_.out (by kernel_rfl)) (fun _ _ _ h => h) (Or.inr ⟨by rfl, rfl⟩) ?_ ?_
    rotate_left
    ·exact aP
    refine pure_ (i := 16) (N := some 36) (v := undef) (a' := ?_) (pT 17 2) rfl rfl (any_of HT_.out (by kernel_rfl)) (fun _ _ _ h => h) (Or.inr ⟨by rfl, rfl⟩) ?_ ?_
    rotate_left
    ·exact aP
    refine pure_ (i := 17) (N := some 37) (v := undef) (a' := ?_) (pT 18 1) rfl rfl (any_of HT_.out (by kernel_rfl)) (fun _ _ _ h => h) (Or.inr ⟨by rfl, rfl⟩) ?_ ?_
    rotate_left
    ·exact aP
    refine pure_ (i := 18) (N := some 38) (v := ?_) (a' := ?_) (pT 19 0) rfl rfl (any_of HT_.out (by kernel_rfl)) (fun _ _ _ h => h) (Or.inl ⟨by rfl, ?_⟩) ?_ ?_
    rotate_left
    ·intro w'
     go_simp
     with_reducible rfl
    rotate_left
    ·exact aP
    refine done_ (done_of HT_.out (by kernel_rfl)) ?_
    try go_wp2
    go_roundg k1
    case measure => have := HK1.out;omega
    case rel => exact ⟨(x11_1), (wrap64 (x12_1 + 1)), eF, H', ⟨by have := HK1.out;omega⟩, ⟨by exact rP HO_11.out⟩, ⟨by exact kP BK211.out⟩, ⟨by exact bB⟩⟩
   subst c12
   rw [if_pos rfl] at H
   by_cases c13 : 0 ≤ a2
   rotate_left
   ·rw [if_neg c13] at H
    exact absurd H (by simp)
   rw [if_pos c13] at H
   have c13b0 : decide (0 ≤ a2) = true := decide_eq_true c13
   clear c13
   by_cases c14 : a2 < (l1.length : Int)
   rotate_left
   ·rw [if_neg c14] at H
    exact absurd H (by simp)
   rw [if_pos c14] at H
   have c14b0 : decide (a2 < (l1.length : Int)) = true := decide_eq_true c14
   clear c14
   replace H := Option.bind_eq_some_iff.mp H
   obtain ⟨t219, A150, H⟩ := H
   try dsimp only at H
   have A15 := Aside0.mk A150
   clear A150
   by_cases c16 : t219 = true
   rotate_left
   ·replace c16 := Bool.eq_false_iff.mpr c16
    subst c16
    rw [if_neg (show ¬ (false = true) by decide)] at H
    have H' := Aside0.mk H
    clear H
    try go_wp2
    have n0_ := aM (Kd.R_drew HO_11.out)
    have n1_ := aM (blk_drew BK211.out)
    have n2_ := aM (below_drew1 HB.out)
    clear HO_11
    clear BK211
    clear HB
    have HO_11 := n0_
    have BK211 := n1_
    have HB := n2_
    clear n0_ n1_ n2_
    have p215 : 0 ≤ (x12_1 : Int) := oA
    have q215 : x12_1 < (l1.length : Int) := oA
    obtain ⟨ad215, A215_0, c215_0, e215, hx215_0, hl215_0, hi215_0⟩ := at_L2 HR1.out x12_1 p215 q215
    have hw215_0 := hx215_0
    cases e215
    replace hx215_0 := (HB.out.cell (World.block_lt_of_cell? w _ hx215_0)).trans hx215_0
    have HR215_0 := Aside0.mk hi215_0
    have HC215_0 := Aside0.mk hl215_0
    clear hi215_0 hl215_0
    replace p215 := eq_true p215
    replace q215 := eq_true q215
    have p217 : 0 ≤ (a2 : Int) := oA
    have q217 : a2 < (l1.length : Int) := oA
    obtain ⟨ad217, A217_0, c217_0, e217, hx217_0, hl217_0, hi217_0⟩ := at_L2 HR1.out a2 p217 q217
    have hw217_0 := hx217_0
    obtain rfl : ad215 = ad217 := (by injection e217)
    replace hx217_0 := (HB.out.cell (World.block_lt_of_cell? w _ hx217_0)).trans hx217_0
    have HR217_0 := Aside0.mk hi217_0
    have HC217_0 := Aside0.mk hl217_0
    clear hi217_0 hl217_0
    replace p217 := eq_true p217
    replace q217 := eq_true q217
    have p218 : 0 ≤ (x12_1 : Int) := oA
    have q218 : x12_1 < (l1.length : Int) := oA
    obtain ⟨ad218, A218_0, c218_0, e218, hx218_0, hl218_0, hi218_0⟩ := at_L2 HR1.out x12_1 p218 q218
    have hw218_0 := hx218_0
    obtain rfl : ad215 = ad218 := (by injection e218)
    replace hx218_0 := (HB.out.cell (World.block_lt_of_cell? w _ hx218_0)).trans hx218_0
    have HR218_0 := Aside0.mk hi218_0
    have HC218_0 := Aside0.mk hl218_0
    clear hi218_0 hl218_0
    replace p218 := eq_true p218
    replace q218 := eq_true q218
    have ea_ := Option.some.inj (hx215_0.symm.trans hx218_0)
    injection ea_ with ea_ en_ ec_
    subst ea_
    subst ec_
    clear en_
    refine start_ (n := 19) (S := fun w' => w'.cell? ⟨gb211, 0, none⟩ = some (.int .i64 a0_0) ∧ w'.cell? ⟨gb211, 1, none⟩ = some (.slice A0_1 l0_1.length c0_1) ∧ w'.cell? (ad215.add (x12_1).toNat) = some (.slice A215_0 (rd_L2 l1 x12_1).length c215_0) ∧ w'.cell? (ad215.add (a2).toNat) = some (.slice A217_0 (rd_L2 l1 a2).length c217_0) ∧ w'.cell? (ad215.add (x12_1).toNat) = some (.slice A215_0 (rd_L2 l1 x12_1).length c215_0)) (ds := []) (pT 0 19) (by kernel_rfl) rfl rfl ⟨(blk_cell BK211.out 0).trans rfl, (blk_cell BK211.out 1).trans rfl, ((HB.out.cell (World.block_lt_of_cell? w _ hw215_0)).trans hw215_0), ((HB.out.cell (World.block_lt_of_cell? w _ hw217_0)).trans hw217_0), ((HB.out.cell (World.block_lt_of_cell? w _ hw218_0)).trans hw218_0)⟩ (fun hHeld => ?_);refine with_tabW spec_l10Answers.tab5 spec_l10Answers.bits5 (fun HT_ HW_ => ?_)
    generalize wr.drew = w21 at HO_11 BK211 HB HR215_0 HR217_0 HR218_0 hx215_0 hx217_0 hx218_0 hHeld ⊢
    refine pure_ (i := 0) (N := some 20) (v := ?_) (a' := ?_) (pT 1 18) rfl rfl (any_of HT_.out (by kernel_rfl)) (fun _ _ _ h => h) (Or.inl ⟨by rfl, ?_⟩) ?_ ?_
    rotate_left
    ·intro w'
     go_simp
     with_reducible rfl
    rotate_left
    ·exact aP
    refine pure_ (i := 1) (N := some 21) (v := ?_) (a' := ?_) (pT 2 17) rfl rfl (any_of HT_.out (by kernel_rfl)) (fun _ _ _ h => h) (Or.inl ⟨by rfl, ?_⟩) ?_ ?_
    rotate_left
    ·intro w'
     go_simp
     with_reducible rfl
    rotate_left
    ·exact aP
    refine pure_ (i := 2) (N := some 22) (v := ?_) (a' := ?_) (pT 3 16) rfl rfl (any_of HT_.out (by kernel_rfl)) (fun _ _ _ h => h) (Or.inl ⟨by rfl, ?_⟩) ?_ ?_
    rotate_left
    ·intro w'
     go_simp
     with_reducible rfl
    rotate_left
    ·exact aP
    refine pure_ (i := 4) (N := some 24) (v := ?_) (a' := ?_) #[true,true,true,false,true,false,false,false,false,false,false,false,false,false,false,false,false,false,false] rfl rfl (any_of HT_.out (by kernel_rfl)) (fun _ _ _ h => h) (Or.inl ⟨by rfl, ?_⟩) ?_ ?_
    rotate_left
    ·intro w'
     go_simp
     with_reducible rfl
    rotate_left
    ·exact aP
    refine take_ (i := 3) (N := some 23) (v := ?_) (a' := ?_) (pT 5 14) rfl rfl (take_ofW HT_.out HW_.out (by kernel_rfl)) (fun _ _ _ h => h) (Or.inl ⟨by rfl, ?_⟩) hHeld ?_ ?_
    rotate_left
    ·rintro w' ⟨s0, s1, s2, s3, s4⟩
     go_simp
     with_reducible rfl
    rotate_left
    ·exact aP
    refine one_ (i := 5) (N := some 25) (pT 6 13) rfl rfl (one_of HT_.out (by kernel_rfl)) (by decide) (fun K hK => ?_)
    refine goes_ Tryd.func43 (by kernel_rfl) rfl #[.slice A215_0 (rd_L2 l1 x12_1).length c215_0, .int .i64 a3] (by rfl) rfl rfl mM ?_
    with_reducible refine (spec_l1Has.calls k1 _ _ (rd_L2 l1 x12_1) a3 true _ ?side1 ?side2 A11.out).mono ?_
    (case side1 => exact cP (Kd.C_below HR215_0.out HB.out))
    (case side2 => exact HC215_0.out)
    rintro e w' ⟨rfl, ⟨nd, rfl⟩⟩
    refine ⟨_, rfl, ?_⟩
    refine hK.out _ _ ⟨(blk_cell BK211.out 0).trans rfl, (blk_cell BK211.out 1).trans rfl, ((HB.out.cell (World.block_lt_of_cell? w _ hw215_0)).trans hw215_0), ((HB.out.cell (World.block_lt_of_cell? w _ hw217_0)).trans hw217_0), ((HB.out.cell (World.block_lt_of_cell? w _ hw218_0)).trans hw218_0)⟩ (fun hHeld => ?_)
    clear hK K
    refine norm_ (a' := ?_) ?_ ?_
    rotate_left
    ·show Act.put _ (some 25) _ = _
     simp only [Act.put, List.setIfInBounds_toArray, List.set_cons_zero, List.set_cons_succ, i64_w, i32_w]
     rfl
    refine pure_ (i := 6) (N := some 26) (v := ?_) (a' := ?_) (pT 7 12) rfl rfl (any_of HT_.out (by kernel_rfl)) (fun _ _ _ h => h) (Or.inl ⟨by rfl, ?_⟩) ?_ ?_
    rotate_left
    ·intro w'
     go_simp
     with_reducible rfl
    rotate_left
    ·exact aP
    refine pure_ (i := 8) (N := some 28) (v := ?_) (a' := ?_) #[true,true,true,true,true,true,true,false,true,false,false,false,false,false,false,false,false,false,false] rfl rfl (any_of HT_.out (by kernel_rfl)) (fun _ _ _ h => h) (Or.inl ⟨by rfl, ?_⟩) ?_ ?_
    rotate_left
    ·intro w'
     go_simp
     with_reducible rfl
    rotate_left
    ·exact aP
    refine pure_ (i := 9) (N := some 29) (v := ?_) (a' := ?_) #[true,true,true,true,true,true,true,false,true,true,false,false,false,false,false,false,false,false,false] rfl rfl (any_of HT_.out (by kernel_rfl)) (fun _ _ _ h => h) (Or.inl ⟨by rfl, ?_⟩) ?_ ?_
    rotate_left
    ·intro w'
     go_simp
     with_reducible rfl
    rotate_left
    ·exact aP
    refine pure_ (i := 10) (N := some 30) (v := ?_) (a' := ?_) #[true,true,true,true,true,true,true,false,true,true,true,false,false,false,false,false,false,false,false] rfl rfl (any_of HT_.out (by kernel_rfl)) (fun _ _ _ h => h) (Or.inl ⟨by rfl, ?_⟩) ?_ ?_
    rotate_left
    ·intro w'
     go_simp
     with_reducible rfl
    rotate_left
    ·exact aP
    refine pure_ (i := 12) (N := some 32) (v := ?_) (a' := ?_) #[true,true,true,true,true,true,true,false,true,true,true,false,true,false,false,false,false,false,false] rfl rfl (any_of HT_.out (by kernel_rfl)) (fun _ _ _ h => h) (Or.inl ⟨by rfl, ?_⟩) ?_ ?_
    rotate_left
    ·intro w'
     go_simp
     with_reducible rfl
    rotate_left
    ·exact aP
    refine pure_ (i := 13) (N := some 33) (v := ?_) (a' := ?_) #[true,true,true,true,true,true,true,false,true,true,true,false,true,true,false,false,false,false,false] rfl rfl (any_of HT_.out (by kernel_rfl)) (fun _ _ _ h => h) (Or.inl ⟨by rfl, ?_⟩) ?_ ?_
    rotate_left
    ·intro w'
     go_simp
     with_reducible rfl
    rotate_left
    ·exact aP
    refine pure_ (i := 14) (N := some 34) (v := ?_) (a' := ?_) #[true,true,true,true,true,true,true,false,true,true,true,false,true,true,true,false,false,false,false] rfl rfl (any_of HT_.out (by kernel_rfl)) (fun _ _ _ h => h) (Or.inl ⟨by rfl, ?_⟩) ?_ ?_
    rotate_left
    ·intro w'
     go_simp
     with_reducible rfl
    rotate_left
    ·exact aP
    refine pure_ (i := 16) (N := some 36) (v := ?_) (a' := ?_) #[true,true,true,true,true,true,true,false,true,true,true,false,true,true,true,false,true,false,false] rfl rfl (any_of HT_.out (by kernel_rfl)) (fun _ _ _ h => h) (Or.inl ⟨by rfl, ?_⟩) ?_ ?_
    rotate_left
    ·intro w'
     go_simp
     with_reducible rfl
    rotate_left
    ·exact aP
    refine take_ (i := 7) (N := some 27) (v := ?_) (a' := ?_) #[true,true,true,true,true,true,true,true,true,true,true,false,true,true,true,false,true,false,false] rfl rfl (take_ofW HT_.out HW_.out (by kernel_rfl)) (fun _ _ _ h => h) (Or.inl ⟨by rfl, ?_⟩) hHeld ?_ ?_
    rotate_left
    ·rintro w' ⟨s0, s1, s2, s3, s4⟩
     go_simp
     with_reducible rfl
    rotate_left
    ·exact aP
    refine take_ (i := 11) (N := some 31) (v := ?_) (a' := ?_) #[true,true,true,true,true,true,true,true,true,true,true,true,true,true,true,false,true,false,false] rfl rfl (take_ofW HT_.out HW_.out (by kernel_rfl)) (fun _ _ _ h => h) (Or.inl ⟨by rfl, ?_⟩) hHeld ?_ ?_
    rotate_left
    ·rintro w' ⟨s0, s1, s2, s3, s4⟩
     go_simp
     with_reducible rfl
    rotate_left
    ·exact aP
    refine take_ (i := 15) (N := some 35) (v := ?_) (a' := ?_) (pT 17 2) rfl rfl (take_ofW HT_.out HW_.out (by kernel_rfl)) (fun _ _ _ h => h) (Or.inl ⟨by rfl, ?_⟩) hHeld ?_ ?_
    rotate_left
    ·rintro w' ⟨s0, s1, s2, s3, s4⟩
     go_simp
     with_reducible rfl
    rotate_left
    ·exact aP
    refine one_ (i := 17) (N := some 37) (pT 18 1) rfl rfl (one_of HT_.out (by kernel_rfl)) (by decide) (fun K hK => ?_)
    refine goes_ Tryd.func91 (by kernel_rfl) rfl #[.agg #[.int .i64 a0_0, .slice A0_1 l0_1.length c0_1], .slice A217_0 (rd_L2 l1 a2).length c217_0, .slice A215_0 (rd_L2 l1 x12_1).length c215_0, .bool a4] (by rfl) rfl rfl mM ?_
    with_reducible refine (spec_l10Moves.calls k1 a0_0 _ _ l0_1 _ _ (rd_L2 l1 a2) _ _ (rd_L2 l1 x12_1) a4 false _ ?side1 ?side2 ?side3 ?side4 ?side5 ?side6 A15.out).mono ?_
    (case side1 => exact cP (Kd.C_below HR0_1.out (by repeat (first | (with_reducible first | exact HB.out | apply below_alloc | apply pw_below_drewN | apply below_drew1 | refine below_set ?_ GE211.out) | exact HB.out))))
    (case side2 => exact HC0_1.out)
    (case side3 => exact cP (Kd.C_below HR217_0.out (by repeat (first | (with_reducible first | exact HB.out | apply below_alloc | apply pw_below_drewN | apply below_drew1 | refine below_set ?_ GE211.out) | exact HB.out))))
    (case side4 => exact HC217_0.out)
    (case side5 => exact cP (Kd.C_below HR218_0.out (by repeat (first | (with_reducible first | exact HB.out | apply below_alloc | apply pw_below_drewN | apply below_drew1 | refine below_set ?_ GE211.out) | exact HB.out))))
    (case side6 => exact HC218_0.out)
    rintro e w22 ⟨rfl, hb⟩
    refine ⟨_, rfl, ?_⟩
    have n0_ := aM (Kd.R_below (by exact rP HO_11.out) hb)
    have n1_ := aM (kB hb BK211.out)
    have n2_ := aM (below_step (by exact bB) hb)
    clear HO_11
    clear BK211
    clear HB
    have HO_11 := n0_
    have BK211 := n1_
    have HB := n2_
    clear n0_ n1_ n2_
    (try clear hb)
    (try clear hb2)
    (try clear hk)
    (try clear hi)
    refine hK.out _ _ ⟨(blk_cell BK211.out 0).trans rfl, (blk_cell BK211.out 1).trans rfl, ((HB.out.cell (World.block_lt_of_cell? w _ hw215_0)).trans hw215_0), ((HB.out.cell (World.block_lt_of_cell? w _ hw217_0)).trans hw217_0), ((HB.out.cell (World.block_lt_of_cell? w _ hw218_0)).trans hw218_0)⟩ (fun hHeld => ?_)
    clear hK K
    refine norm_ (a' := ?_) ?_ ?_
    rotate_left
    ·show Act.put _ (some 37) _ = _
     simp only [Act.put, List.setIfInBounds_toArray, List.set_cons_zero, List.set_cons_succ, i64_w, i32_w]
     rfl
    refine pure_ (i := 18) (N := some 38) (v := ?_) (a' := ?_) (pT 19 0) rfl rfl (any_of HT_.out (by kernel_rfl)) (fun _ _ _ h => h) (Or.inl ⟨by rfl, ?_⟩) ?_ ?_
    rotate_left
    ·intro w'
     go_simp
     with_reducible rfl
    rotate_left
    ·exact aP
    refine done_ (done_of HT_.out (by kernel_rfl)) ?_
    try go_wp2
    go_roundg k1
    case measure => have := HK1.out;omega
    case rel => exact ⟨(x11_1), (wrap64 (x12_1 + 1)), eF, H', ⟨by have := HK1.out;omega⟩, ⟨by exact rP HO_11.out⟩, ⟨by exact kP BK211.out⟩, ⟨by exact bB⟩⟩
   subst c16
   rw [if_pos rfl] at H
   by_cases c17 : x11_1.length < 17592186044416
   rotate_left
   ·rw [if_neg c17] at H
    exact absurd H (by simp)
   rw [if_pos c17] at H
   have LMc17 := Aside0.mk c17
   clear c17
   obtain ⟨y220, hy220⟩ : ∃ y_ : List Int, y_ = (x11_1 ++ [x12_1]) := ⟨_, rfl⟩
   replace H : (spec_l10Answers.l0 k1 l1 a2 a3 a4 y220 (wrap64 (x12_1 + 1)) a0_0 l0_1) = some r := by first | (rw [hy220];with_reducible exact H) | (have H2_ := (Option.bind_some _ _).symm.trans H;rw [hy220];with_reducible exact H2_) | (have H2_ := (Option.bind_some _ _).symm.trans H;with_reducible exact H2_) | with_reducible exact H | (rw [hy220];exact H) | exact H
   have Ny220 := Aside0.mk hy220
   clear hy220
   have H' := Aside0.mk H
   clear H
   try go_wp2
   have n0_ := aM (Kd.R_drew HO_11.out)
   have n1_ := aM (blk_drew BK211.out)
   have n2_ := aM (below_drew1 HB.out)
   clear HO_11
   clear BK211
   clear HB
   have HO_11 := n0_
   have BK211 := n1_
   have HB := n2_
   clear n0_ n1_ n2_
   have p215 : 0 ≤ (x12_1 : Int) := oA
   have q215 : x12_1 < (l1.length : Int) := oA
   obtain ⟨ad215, A215_0, c215_0, e215, hx215_0, hl215_0, hi215_0⟩ := at_L2 HR1.out x12_1 p215 q215
   have hw215_0 := hx215_0
   cases e215
   replace hx215_0 := (HB.out.cell (World.block_lt_of_cell? w _ hx215_0)).trans hx215_0
   have HR215_0 := Aside0.mk hi215_0
   have HC215_0 := Aside0.mk hl215_0
   clear hi215_0 hl215_0
   replace p215 := eq_true p215
   replace q215 := eq_true q215
   have p217 : 0 ≤ (a2 : Int) := oA
   have q217 : a2 < (l1.length : Int) := oA
   obtain ⟨ad217, A217_0, c217_0, e217, hx217_0, hl217_0, hi217_0⟩ := at_L2 HR1.out a2 p217 q217
   have hw217_0 := hx217_0
   obtain rfl : ad215 = ad217 := (by injection e217)
   replace hx217_0 := (HB.out.cell (World.block_lt_of_cell? w _ hx217_0)).trans hx217_0
   have HR217_0 := Aside0.mk hi217_0
   have HC217_0 := Aside0.mk hl217_0
   clear hi217_0 hl217_0
   replace p217 := eq_true p217
   replace q217 := eq_true q217
   have p218 : 0 ≤ (x12_1 : Int) := oA
   have q218 : x12_1 < (l1.length : Int) := oA
   obtain ⟨ad218, A218_0, c218_0, e218, hx218_0, hl218_0, hi218_0⟩ := at_L2 HR1.out x12_1 p218 q218
   have hw218_0 := hx218_0
   obtain rfl : ad215 = ad218 := (by injection e218)
   replace hx218_0 := (HB.out.cell (World.block_lt_of_cell? w _ hx218_0)).trans hx218_0
   have HR218_0 := Aside0.mk hi218_0
   have HC218_0 := Aside0.mk hl218_0
   clear hi218_0 hl218_0
   replace p218 := eq_true p218
   replace q218 := eq_true q218
   have ea_ := Option.some.inj (hx215_0.symm.trans hx218_0)
   injection ea_ with ea_ en_ ec_
   subst ea_
   subst ec_
   clear en_
   refine start_ (n := 19) (S := fun w' => w'.cell? ⟨gb211, 0, none⟩ = some (.int .i64 a0_0) ∧ w'.cell? ⟨gb211, 1, none⟩ = some (.slice A0_1 l0_1.length c0_1) ∧ w'.cell? (ad215.add (x12_1).toNat) = some (.slice A215_0 (rd_L2 l1 x12_1).length c215_0) ∧ w'.cell? (ad215.add (a2).toNat) = some (.slice A217_0 (rd_L2 l1 a2).length c217_0) ∧ w'.cell? (ad215.add (x12_1).toNat) = some (.slice A215_0 (rd_L2 l1 x12_1).length c215_0)) (ds := []) (pT 0 19) (by kernel_rfl) rfl rfl ⟨(blk_cell BK211.out 0).trans rfl, (blk_cell BK211.out 1).trans rfl, ((HB.out.cell (World.block_lt_of_cell? w _ hw215_0)).trans hw215_0), ((HB.out.cell (World.block_lt_of_cell? w _ hw217_0)).trans hw217_0), ((HB.out.cell (World.block_lt_of_cell? w _ hw218_0)).trans hw218_0)⟩ (fun hHeld => ?_);refine with_tabW spec_l10Answers.tab5 spec_l10Answers.bits5 (fun HT_ HW_ => ?_)
   generalize wr.drew = w18 at HO_11 BK211 HB HR215_0 HR217_0 HR218_0 hx215_0 hx217_0 hx218_0 hHeld ⊢
   refine pure_ (i := 0) (N := some 20) (v := ?_) (a' := ?_) (pT 1 18) rfl rfl (any_of HT_.out (by kernel_rfl)) (fun _ _ _ h => h) (Or.inl ⟨by rfl, ?_⟩) ?_ ?_
   rotate_left
   ·intro w'
    go_simp
    with_reducible rfl
   rotate_left
   ·exact aP
   refine pure_ (i := 1) (N := some 21) (v := ?_) (a' := ?_) (pT 2 17) rfl rfl (any_of HT_.out (by kernel_rfl)) (fun _ _ _ h => h) (Or.inl ⟨by rfl, ?_⟩) ?_ ?_
   rotate_left
   ·intro w'
    go_simp
    with_reducible rfl
   rotate_left
   ·exact aP
   refine pure_ (i := 2) (N := some 22) (v := ?_) (a' := ?_) (pT 3 16) rfl rfl (any_of HT_.out (by kernel_rfl)) (fun _ _ _ h => h) (Or.inl ⟨by rfl, ?_⟩) ?_ ?_
   rotate_left
   ·intro w'
    go_simp
    with_reducible rfl
   rotate_left
   ·exact aP
   refine pure_ (i := 4) (N := some 24) (v := ?_) (a' := ?_) #[true,true,true,false,true,false,false,false,false,false,false,false,false,false,false,false,false,false,false] rfl rfl (any_of HT_.out (by kernel_rfl)) (fun _ _ _ h => h) (Or.inl ⟨by rfl, ?_⟩) ?_ ?_
   rotate_left
   ·intro w'
    go_simp
    with_reducible rfl
   rotate_left
   ·exact aP
   refine take_ (i := 3) (N := some 23) (v := ?_) (a' := ?_) (pT 5 14) rfl rfl (take_ofW HT_.out HW_.out (by kernel_rfl)) (fun _ _ _ h => h) (Or.inl ⟨by rfl, ?_⟩) hHeld ?_ ?_
   rotate_left
   ·rintro w' ⟨s0, s1, s2, s3, s4⟩
    go_simp
    with_reducible rfl
   rotate_left
   ·exact aP
   refine one_ (i := 5) (N := some 25) (pT 6 13) rfl rfl (one_of HT_.out (by kernel_rfl)) (by decide) (fun K hK => ?_)
   refine goes_ Tryd.func43 (by kernel_rfl) rfl #[.slice A215_0 (rd_L2 l1 x12_1).length c215_0, .int .i64 a3] (by rfl) rfl rfl mM ?_
   with_reducible refine (spec_l1Has.calls k1 _ _ (rd_L2 l1 x12_1) a3 true _ ?side1 ?side2 A11.out).mono ?_
   (case side1 => exact cP (Kd.C_below HR215_0.out HB.out))
   (case side2 => exact HC215_0.out)
   rintro e w' ⟨rfl, ⟨nd, rfl⟩⟩
   refine ⟨_, rfl, ?_⟩
   refine hK.out _ _ ⟨(blk_cell BK211.out 0).trans rfl, (blk_cell BK211.out 1).trans rfl, ((HB.out.cell (World.block_lt_of_cell? w _ hw215_0)).trans hw215_0), ((HB.out.cell (World.block_lt_of_cell? w _ hw217_0)).trans hw217_0), ((HB.out.cell (World.block_lt_of_cell? w _ hw218_0)).trans hw218_0)⟩ (fun hHeld => ?_)
   clear hK K
   refine norm_ (a' := ?_) ?_ ?_
   rotate_left
   ·show Act.put _ (some 25) _ = _
    simp only [Act.put, List.setIfInBounds_toArray, List.set_cons_zero, List.set_cons_succ, i64_w, i32_w]
    rfl
   refine pure_ (i := 6) (N := some 26) (v := ?_) (a' := ?_) (pT 7 12) rfl rfl (any_of HT_.out (by kernel_rfl)) (fun _ _ _ h => h) (Or.inl ⟨by rfl, ?_⟩) ?_ ?_
   rotate_left
   ·intro w'
    go_simp
    with_reducible rfl
   rotate_left
   ·exact aP
   refine pure_ (i := 8) (N := some 28) (v := ?_) (a' := ?_) #[true,true,true,true,true,true,true,false,true,false,false,false,false,false,false,false,false,false,false] rfl rfl (any_of HT_.out (by kernel_rfl)) (fun _ _ _ h => h) (Or.inl ⟨by rfl, ?_⟩) ?_ ?_
   rotate_left
   ·intro w'
    go_simp
    with_reducible rfl
   rotate_left
   ·exact aP
   refine pure_ (i := 9) (N := some 29) (v := ?_) (a' := ?_) #[true,true,true,true,true,true,true,false,true,true,false,false,false,false,false,false,false,false,false] rfl rfl (any_of HT_.out (by kernel_rfl)) (fun _ _ _ h => h) (Or.inl ⟨by rfl, ?_⟩) ?_ ?_
   rotate_left
   ·intro w'
    go_simp
    with_reducible rfl
   rotate_left
   ·exact aP
   refine pure_ (i := 10) (N := some 30) (v := ?_) (a' := ?_) #[true,true,true,true,true,true,true,false,true,true,true,false,false,false,false,false,false,false,false] rfl rfl (any_of HT_.out (by kernel_rfl)) (fun _ _ _ h => h) (Or.inl ⟨by rfl, ?_⟩) ?_ ?_
   rotate_left
   ·intro w'
    go_simp
    with_reducible rfl
   rotate_left
   ·exact aP
   refine pure_ (i := 12) (N := some 32) (v := ?_) (a' := ?_) #[true,true,true,true,true,true,true,false,true,true,true,false,true,false,false,false,false,false,false] rfl rfl (any_of HT_.out (by kernel_rfl)) (fun _ _ _ h => h) (Or.inl ⟨by rfl, ?_⟩) ?_ ?_
   rotate_left
   ·intro w'
    go_simp
    with_reducible rfl
   rotate_left
   ·exact aP
   refine pure_ (i := 13) (N := some 33) (v := ?_) (a' := ?_) #[true,true,true,true,true,true,true,false,true,true,true,false,true,true,false,false,false,false,false] rfl rfl (any_of HT_.out (by kernel_rfl)) (fun _ _ _ h => h) (Or.inl ⟨by rfl, ?_⟩) ?_ ?_
   rotate_left
   ·intro w'
    go_simp
    with_reducible rfl
   rotate_left
   ·exact aP
   refine pure_ (i := 14) (N := some 34) (v := ?_) (a' := ?_) #[true,true,true,true,true,true,true,false,true,true,true,false,true,true,true,false,false,false,false] rfl rfl (any_of HT_.out (by kernel_rfl)) (fun _ _ _ h => h) (Or.inl ⟨by rfl, ?_⟩) ?_ ?_
   rotate_left
   ·intro w'
    go_simp
    with_reducible rfl
   rotate_left
   ·exact aP
   refine pure_ (i := 16) (N := some 36) (v := ?_) (a' := ?_) #[true,true,true,true,true,true,true,false,true,true,true,false,true,true,true,false,true,false,false] rfl rfl (any_of HT_.out (by kernel_rfl)) (fun _ _ _ h => h) (Or.inl ⟨by rfl, ?_⟩) ?_ ?_
   rotate_left
   ·intro w'
    go_simp
    with_reducible rfl
   rotate_left
   ·exact aP
   refine take_ (i := 7) (N := some 27) (v := ?_) (a' := ?_) #[true,true,true,true,true,true,true,true,true,true,true,false,true,true,true,false,true,false,false] rfl rfl (take_ofW HT_.out HW_.out (by kernel_rfl)) (fun _ _ _ h => h) (Or.inl ⟨by rfl, ?_⟩) hHeld ?_ ?_
   rotate_left
   ·rintro w' ⟨s0, s1, s2, s3, s4⟩
    go_simp
    with_reducible rfl
   rotate_left
   ·exact aP
   refine take_ (i := 11) (N := some 31) (v := ?_) (a' := ?_) #[true,true,true,true,true,true,true,true,true,true,true,true,true,true,true,false,true,false,false] rfl rfl (take_ofW HT_.out HW_.out (by kernel_rfl)) (fun _ _ _ h => h) (Or.inl ⟨by rfl, ?_⟩) hHeld ?_ ?_
   rotate_left
   ·rintro w' ⟨s0, s1, s2, s3, s4⟩
    go_simp
    with_reducible rfl
   rotate_left
   ·exact aP
   refine take_ (i := 15) (N := some 35) (v := ?_) (a' := ?_) (pT 17 2) rfl rfl (take_ofW HT_.out HW_.out (by kernel_rfl)) (fun _ _ _ h => h) (Or.inl ⟨by rfl, ?_⟩) hHeld ?_ ?_
   rotate_left
   ·rintro w' ⟨s0, s1, s2, s3, s4⟩
    go_simp
    with_reducible rfl
   rotate_left
   ·exact aP
   refine one_ (i := 17) (N := some 37) (pT 18 1) rfl rfl (one_of HT_.out (by kernel_rfl)) (by decide) (fun K hK => ?_)
   refine goes_ Tryd.func91 (by kernel_rfl) rfl #[.agg #[.int .i64 a0_0, .slice A0_1 l0_1.length c0_1], .slice A217_0 (rd_L2 l1 a2).length c217_0, .slice A215_0 (rd_L2 l1 x12_1).length c215_0, .bool a4] (by rfl) rfl rfl mM ?_
   with_reducible refine (spec_l10Moves.calls k1 a0_0 _ _ l0_1 _ _ (rd_L2 l1 a2) _ _ (rd_L2 l1 x12_1) a4 true _ ?side1 ?side2 ?side3 ?side4 ?side5 ?side6 A15.out).mono ?_
   (case side1 => exact cP (Kd.C_below HR0_1.out (by repeat (first | (with_reducible first | exact HB.out | apply below_alloc | apply pw_below_drewN | apply below_drew1 | refine below_set ?_ GE211.out) | exact HB.out))))
   (case side2 => exact HC0_1.out)
   (case side3 => exact cP (Kd.C_below HR217_0.out (by repeat (first | (with_reducible first | exact HB.out | apply below_alloc | apply pw_below_drewN | apply below_drew1 | refine below_set ?_ GE211.out) | exact HB.out))))
   (case side4 => exact HC217_0.out)
   (case side5 => exact cP (Kd.C_below HR218_0.out (by repeat (first | (with_reducible first | exact HB.out | apply below_alloc | apply pw_below_drewN | apply below_drew1 | refine below_set ?_ GE211.out) | exact HB.out))))
   (case side6 => exact HC218_0.out)
   rintro e w19 ⟨rfl, hb⟩
   refine ⟨_, rfl, ?_⟩
   have n0_ := aM (Kd.R_below (by exact rP HO_11.out) hb)
   have n1_ := aM (kB hb BK211.out)
   have n2_ := aM (below_step (by exact bB) hb)
   clear HO_11
   clear BK211
   clear HB
   have HO_11 := n0_
   have BK211 := n1_
   have HB := n2_
   clear n0_ n1_ n2_
   (try clear hb)
   (try clear hb2)
   (try clear hk)
   (try clear hi)
   refine hK.out _ _ ⟨(blk_cell BK211.out 0).trans rfl, (blk_cell BK211.out 1).trans rfl, ((HB.out.cell (World.block_lt_of_cell? w _ hw215_0)).trans hw215_0), ((HB.out.cell (World.block_lt_of_cell? w _ hw217_0)).trans hw217_0), ((HB.out.cell (World.block_lt_of_cell? w _ hw218_0)).trans hw218_0)⟩ (fun hHeld => ?_)
   clear hK K
   refine norm_ (a' := ?_) ?_ ?_
   rotate_left
   ·show Act.put _ (some 37) _ = _
    simp only [Act.put, List.setIfInBounds_toArray, List.set_cons_zero, List.set_cons_succ, i64_w, i32_w]
    rfl
   refine pure_ (i := 18) (N := some 38) (v := ?_) (a' := ?_) (pT 19 0) rfl rfl (any_of HT_.out (by kernel_rfl)) (fun _ _ _ h => h) (Or.inl ⟨by rfl, ?_⟩) ?_ ?_
   rotate_left
   ·intro w'
    go_simp
    with_reducible rfl
   rotate_left
   ·exact aP
   refine done_ (done_of HT_.out (by kernel_rfl)) ?_
   try go_wp2_with (first | ((with_reducible refine gate_builtin (b := .append) (xs := #[.tmp 39, .tmp 41]) rfl ?_);at_builtin;refine Kd.R_append (Kd.int .i64) (w0 := w) w.heap.size rfl (.tmp 39) (.tmp 41) 36 3 (.int .i64 0) 8 rfl Tryd.underlying36 info3 rfl (by decide) (by omega) u11 x11_1 x12_1 [.int .i64 x12_1] (fun _ => True) (fun _ => False) rfl rfl ?aP (fun _ hk => hk.elim) ?aF ?aO ?aB ?aS ?aL ?_;(case aP => exact rfl);(case aB => exact (by exact bB));(case aF => exact (fun _ _ => trivial));(case aO => exact (by exact rP HO_11.out));(case aS => exact (below_size (by exact bB)));(case aL => have := LMc17.out;omega);intro v221 w20 ho hb hg hat;rw [← Ny220.out] at ho;have n0_ := aM (blk_grown (g := gb211) (o := .cells #[.int .i64 a0_0, .slice A0_1 l0_1.length c0_1] 29 (0, 0)) (by exact kP BK211.out) hg (Kd.R_ne HO_11.out BK211.out (by decide)));have n1_ := aM (hb);have n2_ := aM (ho);clear BK211;clear HB;clear HO_11;have BK211 := n0_;have HB := n1_;have HO222 := n2_;clear n0_ n1_ n2_;clear ho hb hg hat))
   go_roundg k1
   case measure => have := HK1.out;omega
   case rel => exact ⟨(y220), (wrap64 (x12_1 + 1)), eF, H', ⟨by have := HK1.out;omega⟩, ⟨by exact rP HO222.out⟩, ⟨by exact kP BK211.out⟩, ⟨by exact bB⟩⟩


end Go.Proofs.YtgahlimikndecaaDoor.QEternalFamily
