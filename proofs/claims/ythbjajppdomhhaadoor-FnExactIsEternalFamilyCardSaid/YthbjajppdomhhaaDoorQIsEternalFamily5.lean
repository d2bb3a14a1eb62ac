import Derived.Test.YthbjajppdomhhaaDoorQIsEternalFamily0
import Derived.Test.YthbjajppdomhhaaDoorQIsEternalFamily2
import Derived.Test.YthbjajppdomhhaaDoorQIsEternalFamily3
import Derived.Test.YthbjajppdomhhaaDoorQIsEternalFamily4
namespace Go.Proofs.YthbjajppdomhhaaDoor.QIsEternalFamily
open Go.RowKit Go.Proofs.YthbjajppdomhhaaDoorW.PrintWords Go.Proofs.YthbjajppdomhhaaDoorW.PrintLast Go.Proofs.YthbjajppdomhhaaDoorW.PrintMore
attribute [local go_sem] max2_int min2_int max_two min_two max_three min_three max_four min_four   -- for this text's walks alone
set_option linter.unusedVariables false
set_option linter.unusedSimpArgs false
/-! ### spec_l10Moves: function 51 -/
def spec_l10Moves.l0 : Nat → List Int → List Int → List Int → List Int → Int → Int → List (S92) → Option (Bool)
 | 0, _, _, _, _, _, _, _ => none
 | k + 1, x1, x2, x9, x10, x11, x167000, x167001 => if x11 < (x1.length : Int) then (if 0 ≤ x11 then ((spec_l1Has.f k x2 (rd x1 x11)).bind fun t181 => (if t181 = true then (if x11 < (x2.length : Int) then ((spec_l1Has.f k x1 (rd x2 x11)).bind fun t183 => (if t183 = true then (spec_l10Moves.l0 k x1 x2 x9 x10 (wrap64 (x11 + 1)) x167000 x167001) else (if x10.length < 17592186044416 then (spec_l10Moves.l0 k x1 x2 x9 (x10 ++ [rd x2 x11]) (wrap64 (x11 + 1)) x167000 x167001) else (none)))) else (none)) else (if x9.length < 17592186044416 then ((some (x9 ++ [rd x1 x11] : List Int)).bind fun y189 => (if x11 < (x2.length : Int) then ((spec_l1Has.f k x1 (rd x2 x11)).bind fun t193 => (if t193 = true then (spec_l10Moves.l0 k x1 x2 y189 x10 (wrap64 (x11 + 1)) x167000 x167001) else (if x10.length < 17592186044416 then (spec_l10Moves.l0 k x1 x2 y189 (x10 ++ [rd x2 x11]) (wrap64 (x11 + 1)) x167000 x167001) else (none)))) else (none))) else (none)))) else (none)) else (if (x9.length : Int) = 1 then (if 0 < (x9.length : Int) then (if 0 < (x10.length : Int) then ((spec_l2Near.f k x167000 x167001 (rd x9 0) (rd x10 0)).bind fun t179 => (some t179)) else (none)) else (none)) else (some false))
def spec_l10Moves.f (k : Nat) (a0_0 : Int) (l0_1 : List (S92)) (l1 : List Int) (l2 : List Int) (a3 : Bool) : Option (Bool) := if a3 = true then ((spec_l10Matches.f k a0_0 l0_1 l1 l2 0 (([] : List Int))).bind fun t170 => (some t170)) else (spec_l10Moves.l0 k l1 l2 (([] : List Int)) (([] : List Int)) 0 a0_0 l0_1)
theorem spec_l10Moves.mono_l : ∀ k, (∀ y0 y1 y2 y3 y4 y5 y6, LeO (spec_l10Moves.l0 k y0 y1 y2 y3 y4 y5 y6) (spec_l10Moves.l0 (k + 1) y0 y1 y2 y3 y4 y5 y6))
 | 0 => fun _ _ _ _ _ _ _ r h => by simp [spec_l10Moves.l0] at h
 | k + 1 => by
  have ih0 := spec_l10Moves.mono_l k
  ·intro y0 y1 y2 y3 y4 y5 y6
   unfold spec_l10Moves.l0
   repeat' first
   | (with_reducible exact ih0 _ _ _ _ _ _ _)
   | (with_reducible exact spec_l10Matches.mono _ _ _ _ _ _ _)
   | (with_reducible exact spec_l1Has.mono _ _ _)
   | (with_reducible exact spec_l2Near.mono _ _ _ _ _)
   | (with_reducible exact LeO.refl _)
   | (with_reducible exact LeO.none _)
   | (with_reducible refine LeO.ite ?_ ?_)
   | (with_reducible refine LeO.bind ?_ (fun _ => ?_))
   | exact ih0 _ _ _ _ _ _ _
   | exact spec_l10Matches.mono _ _ _ _ _ _ _
   | exact spec_l1Has.mono _ _ _
   | exact spec_l2Near.mono _ _ _ _ _
   | exact LeO.none _
   | refine LeO.ite ?_ ?_
   | refine LeO.bind ?_ (fun _ => ?_)
theorem spec_l10Moves.mono : ∀ a0 a1 a2 a3 a4 k, LeO (spec_l10Moves.f k a0 a1 a2 a3 a4) (spec_l10Moves.f (k + 1) a0 a1 a2 a3 a4) := by
 intro a0 a1 a2 a3 a4 k
 have ih0 := spec_l10Moves.mono_l k
 unfold spec_l10Moves.f
 repeat' first
   | (with_reducible exact ih0 _ _ _ _ _ _ _)
   | (with_reducible exact spec_l10Matches.mono _ _ _ _ _ _ _)
   | (with_reducible exact spec_l1Has.mono _ _ _)
   | (with_reducible exact spec_l2Near.mono _ _ _ _ _)
   | (with_reducible exact LeO.refl _)
   | (with_reducible exact LeO.none _)
   | (with_reducible refine LeO.ite ?_ ?_)
   | (with_reducible refine LeO.bind ?_ (fun _ => ?_))
   | exact ih0 _ _ _ _ _ _ _
   | exact spec_l10Matches.mono _ _ _ _ _ _ _
   | exact spec_l1Has.mono _ _ _
   | exact spec_l2Near.mono _ _ _ _ _
   | exact LeO.none _
   | refine LeO.ite ?_ ?_
   | refine LeO.bind ?_ (fun _ => ?_)
def spec_l10Moves.T11 : Bool × List (List Nat × List Nat) := (true, [([], []), ([0], [0]), ([1], [1]), ([2], [2]), ([3], [3]), ([3], [3]), ([5, 3], [3, 5]), ([6, 3], [3, 6]), ([3], [3]), ([8, 3], [3, 8]), ([9, 3], [3, 9]), ([4, 7, 10, 3, 3], [3, 4, 7, 10]), ([3, 11], [3, 11]), ([12, 11, 0, 1, 2, 3, 4, 5, 6, 7, 8, 9, 10, 11, 12], [12])])
def spec_l10Moves.B11 : List Nat := [0, 1, 3, 7, 15, 15, 47, 111, 15, 271, 783, 2047, 4095, 8191]
theorem spec_l10Moves.tab11 : rtab .any (opsOf Tryd.f51 11) = spec_l10Moves.T11 := by kernel_rfl
theorem spec_l10Moves.bits11 : waitsOk spec_l10Moves.T11.2 spec_l10Moves.B11 = true := by kernel_rfl
set_option maxHeartbeats 8000000 in
set_option maxRecDepth 100000 in
theorem spec_l10Moves.calls (k : Nat) (a0_0 : Int) (A0_1 : Option Addr) (c0_1 : Nat) (l0_1 : List (S92)) (A1 : Option Addr) (c1 : Nat) (l1 : List Int) (A2 : Option Addr) (c2 : Nat) (l2 : List Int) (a3 : Bool) (r : Bool) (w : World) (hr0_1 : Kd.C k92 w A0_1 l0_1.length l0_1) (hc0_1 : l0_1.length ≤ c0_1) (hr1 : Kd.C (Kd.int .i64) w A1 l1.length l1) (hc1 : l1.length ≤ c1) (hr2 : Kd.C (Kd.int .i64) w A2 l2.length l2) (hc2 : l2.length ≤ c2) (h : spec_l10Moves.f k a0_0 l0_1 l1 l2 a3 = some r) :
  Calls Tryd.prog 51 #[.agg #[.int .i64 a0_0, .slice A0_1 l0_1.length c0_1], .slice A1 l1.length c1, .slice A2 l2.length c2, .bool a3] w fun e w' => e = .returned (.bool r) ∧ Below w.heap.size w w' := by
 have hu28 := Tryd.underlying28
 have HR0_1 := Aside0.mk hr0_1
 have HC0_1 := Aside0.mk hc0_1
 clear hr0_1 hc0_1
 have HR1 := Aside0.mk hr1
 have HC1 := Aside0.mk hc1
 clear hr1 hc1
 have HR2 := Aside0.mk hr2
 have HC2 := Aside0.mk hc2
 clear hr2 hc2
 have HB := Aside0.mk (Below.refl w.heap.size w)
 have H : (if a3 = true then ((spec_l10Matches.f k a0_0 l0_1 l1 l2 0 (([] : List Int))).bind fun t170 => (some t170)) else (spec_l10Moves.l0 k l1 l2 (([] : List Int)) (([] : List Int)) 0 a0_0 l0_1)) = some r := h
 clear h
 by_cases c5 : a3 = true
 ·subst c5
  have H1 : ((spec_l10Matches.f k a0_0 l0_1 l1 l2 0 (([] : List Int))).bind fun t170 => (some t170)) = some r := by rw [if_pos rfl] at H;exact H
  clear H
  have H := H1
  clear H1
  obtain ⟨y167, hy167⟩ : ∃ y_ : List Int, y_ = (([] : List Int)) := ⟨_, rfl⟩
  replace H : ((spec_l10Matches.f k a0_0 l0_1 l1 l2 0 y167).bind fun t170 => (some t170)) = some r := by first | (rw [hy167];with_reducible exact H) | (have H2_ := (Option.bind_some _ _).symm.trans H;rw [hy167];with_reducible exact H2_) | (have H2_ := (Option.bind_some _ _).symm.trans H;with_reducible exact H2_) | with_reducible exact H | (rw [hy167];exact H) | exact H
  have Ny167 := Aside0.mk hy167
  clear hy167
  replace H := Option.bind_eq_some_iff.mp H
  obtain ⟨t170, A60, H⟩ := H
  replace H : (some t170) = some r := H
  have A6 := Aside0.mk A60
  clear A60
  obtain rfl := Option.some.inj H
  go_enter Tryd.func51, Tryd.ntmps51
  go_wp2_with (first | ((with_reducible refine gate_dst (N := 4) rfl ?_);refine box_event ?hg (N := 4) ?hd (cs := #[.int .i64 a0_0, .slice A0_1 l0_1.length c0_1]) (t := 28) ?hr ?_;(case hd => rfl);(case hg => rfl);(case hr => first | (go_simp;done) | (go_simp;rfl));intro gb166 hg w7 hbox hb;have n0_ := Aside0.mk (below_step (by exact bB) hb);have n1_ := Aside0.mk (hbox);have n2_ := Aside0.mk ((by rw [hg];exact (below_size (by exact bB)) : w.heap.size ≤ gb166));have n3_ := Aside0.mk ((by rw [hg];exact (below_size (by exact bB)) : w.heap.size ≤ gb166));clear HB;have HB := n0_;have BK166 := n1_;have GW166 := n2_;have GE166 := n3_;clear n0_ n1_ n2_ n3_;clear hb hbox hg;have hcz8_0 : w7.cell? ⟨gb166, 0, none⟩ = some (.int .i64 a0_0) := (blk_cell BK166.out 0).trans rfl;have hcz8_1 : w7.cell? ⟨gb166, 1, none⟩ = some (.slice A0_1 l0_1.length c0_1) := (blk_cell BK166.out 1).trans rfl;have hfz8_0 := blk_frozen BK166.out 0;have hfz8_1 := blk_frozen BK166.out 1) | ((with_reducible refine gate_dst (N := 16) rfl ?_);refine Kd.R_lit (Kd.int .i64) _ 3 ?hg (N := 16) ?hd (xs := ([] : List Int)) (inner := []) (ok := fun _ => True) (okp := fun _ => True) ?hr ?hp (fun _ hk => hk) trivial (Below.refl _ _) (Nat.le_refl _) (by simp) ?_;(case hd => rfl);(case hg => rfl);(case hr => first | (go_simp;done) | (go_simp;rfl));(case hp => exact (Reps.none _ _));intro v168 w9 ho10 hb hg_ hnew_;clear hg_ hnew_;(first | rw [← Ny167.out] at ho10 | (simp only [Int.reduceToNat] at ho10;rw [← Ny167.out] at ho10));have n0_ := Aside0.mk (Kd.R_lower ho10 (below_size (by exact bB)));have n1_ := Aside0.mk (blk_below (g := gb166) (o := .cells #[.int .i64 a0_0, .slice A0_1 l0_1.length c0_1] 28 (0, 0)) (by exact kP BK166.out) hb);have n2_ := Aside0.mk (below_step (by exact bB) hb);clear BK166;clear HB;have HO169 := n0_;have BK166 := n1_;have HB := n2_;clear n0_ n1_ n2_;clear hb ho10;obtain ⟨Ao11, co11, eo11⟩ := Kd.R_slice HO169.out;subst eo11) | ((with_reducible refine gate_callee (f := 90) rfl ?_);refine goesL_ (some 17) rfl rfl Tryd.func90 (by kernel_rfl) rfl #[.agg #[.int .i64 a0_0, .slice A0_1 l0_1.length c0_1], .slice A1 l1.length c1, .slice A2 l2.length c2, .int .i64 0, .slice Ao11 y167.length co11] rfl mM ?_;(with_reducible refine (spec_l10Matches.calls k a0_0 _ _ l0_1 _ _ l1 _ _ l2 0 _ _ y167 t170 _ ?side1 ?side2 ?side3 ?side4 ?side5 ?side6 ?side7 ?side8 A6.out).mono ?_);(case side1 => exact cP (Kd.C_below HR0_1.out HB.out));(case side2 => exact HC0_1.out);(case side3 => exact cP (Kd.C_below HR1.out HB.out));(case side4 => exact HC1.out);(case side5 => exact cP (Kd.C_below HR2.out HB.out));(case side6 => exact HC2.out);(case side7 => exact cP (Kd.R_reads' HO169.out).2.2);(case side8 => exact (Kd.R_reads' HO169.out).2.1);rintro e w12 ⟨rfl, hb⟩;refine ⟨_, rfl, ?_⟩;have n0_ := Aside0.mk (Kd.R_below (by exact rP HO169.out) hb);have n1_ := Aside0.mk (blk_below (g := gb166) (o := .cells #[.int .i64 a0_0, .slice A0_1 l0_1.length c0_1] 28 (0, 0)) (by exact kP BK166.out) hb);have n2_ := Aside0.mk (below_step (by exact bB) hb);clear HO169;clear BK166;clear HB;have HO169 := n0_;have BK166 := n1_;have HB := n2_;clear n0_ n1_ n2_;(try clear hb);(try clear hb2);(try clear hk);(try clear hi)))
  go_ret
  exact ⟨by first | rfl | (simp [errW_none, errW_some] <;> rfl) | (simp [*, errW_none, errW_some] <;> rfl), by exact bB⟩
 ·replace c5 := Bool.eq_false_iff.mpr c5
  subst c5
  have H1 : (spec_l10Moves.l0 k l1 l2 (([] : List Int)) (([] : List Int)) 0 a0_0 l0_1) = some r := by rw [if_neg (show ¬ (false = true) by decide)] at H;exact H
  clear H
  have H := H1
  clear H1
  obtain ⟨y171, hy171⟩ : ∃ y_ : List Int, y_ = (([] : List Int)) := ⟨_, rfl⟩
  replace H : (spec_l10Moves.l0 k l1 l2 y171 (([] : List Int)) 0 a0_0 l0_1) = some r := by first | (rw [hy171];with_reducible exact H) | (have H2_ := (Option.bind_some _ _).symm.trans H;rw [hy171];with_reducible exact H2_) | (have H2_ := (Option.bind_some _ _).symm.trans H;with_reducible exact H2_) | with_reducible exact H | (rw [hy171];exact H) | exact H
  have Ny171 := Aside0.mk hy171
  clear hy171
  obtain ⟨y174, hy174⟩ : ∃ y_ : List Int, y_ = (([] : List Int)) := ⟨_, rfl⟩
  replace H : (spec_l10Moves.l0 k l1 l2 y171 y174 0 a0_0 l0_1) = some r := by first | (rw [hy174];with_reducible exact H) | (have H2_ := (Option.bind_some _ _).symm.trans H;rw [hy174];with_reducible exact H2_) | (have H2_ := (Option.bind_some _ _).symm.trans H;with_reducible exact H2_) | with_reducible exact H | (rw [hy174];exact H) | exact H
  have Ny174 := Aside0.mk hy174
  clear hy174
  have H' := Aside0.mk H
  clear H
  go_enter Tryd.func51, Tryd.ntmps51
  go_wp2_with (first | ((with_reducible refine gate_dst (N := 4) rfl ?_);refine box_event ?hg (N := 4) ?hd (cs := #[.int .i64 a0_0, .slice A0_1 l0_1.length c0_1]) (t := 28) ?hr ?_;(case hd => rfl);(case hg => rfl);(case hr => first | (go_simp;done) | (go_simp;rfl));intro gb166 hg w13 hbox hb;have n0_ := Aside0.mk (below_step (by exact bB) hb);have n1_ := Aside0.mk (hbox);have n2_ := Aside0.mk ((by rw [hg];exact (below_size (by exact bB)) : w.heap.size ≤ gb166));have n3_ := Aside0.mk ((by rw [hg];exact (below_size (by exact bB)) : w.heap.size ≤ gb166));clear HB;have HB := n0_;have BK166 := n1_;have GW166 := n2_;have GE166 := n3_;clear n0_ n1_ n2_ n3_;clear hb hbox hg) | ((with_reducible refine gate_dst (N := 18) rfl ?_);refine Kd.R_lit (Kd.int .i64) _ 3 ?hg (N := 18) ?hd (xs := ([] : List Int)) (inner := []) (ok := fun _ => True) (okp := fun _ => True) ?hr ?hp (fun _ hk => hk) trivial (Below.refl _ _) (Nat.le_refl _) (by simp) ?_;(case hd => rfl);(case hg => rfl);(case hr => first | (go_simp;done) | (go_simp;rfl));(case hp => exact (Reps.none _ _));intro v172 w14 ho15 hb hg_ hnew_;clear hg_ hnew_;(first | rw [← Ny171.out] at ho15 | (simp only [Int.reduceToNat] at ho15;rw [← Ny171.out] at ho15));have n0_ := Aside0.mk (Kd.R_lower ho15 (below_size (by exact bB)));have n1_ := Aside0.mk (blk_below (g := gb166) (o := .cells #[.int .i64 a0_0, .slice A0_1 l0_1.length c0_1] 28 (0, 0)) (by exact kP BK166.out) hb);have n2_ := Aside0.mk (below_step (by exact bB) hb);clear BK166;clear HB;have HO173 := n0_;have BK166 := n1_;have HB := n2_;clear n0_ n1_ n2_;clear hb ho15) | ((with_reducible refine gate_dst (N := 19) rfl ?_);refine Kd.R_lit (Kd.int .i64) _ 3 ?hg (N := 19) ?hd (xs := ([] : List Int)) (inner := []) (ok := fun _ => True) (okp := fun _ => True) ?hr ?hp (fun _ hk => hk) trivial (Below.refl _ _) (Nat.le_refl _) (by simp) ?_;(case hd => rfl);(case hg => rfl);(case hr => first | (go_simp;done) | (go_simp;rfl));(case hp => exact (Reps.none _ _));intro v175 w16 ho17 hb hg_ hnew_;clear hg_ hnew_;(first | rw [← Ny174.out] at ho17 | (simp only [Int.reduceToNat] at ho17;rw [← Ny174.out] at ho17));have n0_ := Aside0.mk (Kd.R_elder' (by exact rP HO173.out) (Kd.R_base ho17) hb);have n1_ := Aside0.mk (Kd.R_lower (Kd.R_new' ho17 (Kd.R_lt (by exact rP HO173.out))) (below_size (by exact bB)));have n2_ := Aside0.mk (blk_below (g := gb166) (o := .cells #[.int .i64 a0_0, .slice A0_1 l0_1.length c0_1] 28 (0, 0)) (by exact kP BK166.out) hb);have n3_ := Aside0.mk (below_step (by exact bB) hb);clear HO173;clear BK166;clear HB;have HO173 := n0_;have HO176 := n1_;have BK166 := n2_;have HB := n3_;clear n0_ n1_ n2_ n3_;clear hb ho17))
  go_loopg [9, 10, 11] k (fun kq v9 v10 v11 w' => ∃ (x9_1 : List Int) (x10_1 : List Int) (x11_1 : Int), v11 = .int .i64 x11_1 ∧ Aside0 (spec_l10Moves.l0 kq l1 l2 x9_1 x10_1 x11_1 a0_0 l0_1 = some r) ∧ Aside0 (kq ≤ k) ∧ Aside0 (Kd.R (Kd.int .i64) 3 w' w.heap.size (fun k_ => some k_ ≠ (v10 : Value).ownBlock) v9 x9_1) ∧ Aside0 (Kd.R (Kd.int .i64) 3 w' w.heap.size (fun k_ => some k_ ≠ (v9 : Value).ownBlock) v10 x10_1) ∧ Aside0 (w'.heap[gb166]? = some (.cells #[.int .i64 a0_0, (.slice A0_1 l0_1.length c0_1)] 28 (0, 0))) ∧ Aside0 (Below w.heap.size w w'))
  case atStart => exact ⟨(y171), (y174), (0), (by first | rfl | (simp;done) | (simp [*];done)), H', ⟨Nat.le_refl _⟩, ⟨by refine rP ?_;exact Kd.R_mono HO173.out (fun _ hk => hk.2)⟩, ⟨by refine rP ?_;exact Kd.R_mono HO176.out (fun _ hk => hk.2)⟩, ⟨by exact kP BK166.out⟩, ⟨by exact bB⟩⟩
  case round =>
   clear H'
   try clear c1
   try clear c2
   try clear p2
   try clear c5
   try clear c9
   try clear hcz8_0
   try clear hcz8_1
   try clear hfz8_0
   try clear hfz8_1
   obtain ⟨x9_1, x10_1, x11_1, rfl, HA, HK1, HO_9, HO_10, BK166, HB⟩ := hrel
   cases gk with
   | zero => exact absurd HA.out (by simp [spec_l10Moves.l0])
   | succ k1 =>
    have H := HA.out
    clear HA
    simp only [spec_l10Moves.l0] at H
    by_cases c18 : x11_1 < (l1.length : Int)
    ·rw [if_pos c18] at H
     have c18b0 : decide (x11_1 < (l1.length : Int)) = true := decide_eq_true c18
     clear c18
     by_cases c19 : 0 ≤ x11_1
     ·rw [if_pos c19] at H
      have c19b0 : decide (0 ≤ x11_1) = true := decide_eq_true c19
      clear c19
      replace H := Option.bind_eq_some_iff.mp H
      obtain ⟨t181, A200, H⟩ := H
      replace H : (if t181 = true then (if x11_1 < (l2.length : Int) then ((spec_l1Has.f k1 l1 (rd l2 x11_1)).bind fun t183 => (if t183 = true then (spec_l10Moves.l0 k1 l1 l2 x9_1 x10_1 (wrap64 (x11_1 + 1)) a0_0 l0_1) else (if x10_1.length < 17592186044416 then (spec_l10Moves.l0 k1 l1 l2 x9_1 (x10_1 ++ [rd l2 x11_1]) (wrap64 (x11_1 + 1)) a0_0 l0_1) else (none)))) else (none)) else (if x9_1.length < 17592186044416 then ((some (x9_1 ++ [rd l1 x11_1] : List Int)).bind fun y189 => (if x11_1 < (l2.length : Int) then ((spec_l1Has.f k1 l1 (rd l2 x11_1)).bind fun t193 => (if t193 = true then (spec_l10Moves.l0 k1 l1 l2 y189 x10_1 (wrap64 (x11_1 + 1)) a0_0 l0_1) else (if x10_1.length < 17592186044416 then (spec_l10Moves.l0 k1 l1 l2 y189 (x10_1 ++ [rd l2 x11_1]) (wrap64 (x11_1 + 1)) a0_0 l0_1) else (none)))) else (none))) else (none))) = some r := H
      have A20 := Aside0.mk A200
      clear A200
      by_cases c21 : t181 = true
      ·subst c21
       have H1 : (if x11_1 < (l2.length : Int) then ((spec_l1Has.f k1 l1 (rd l2 x11_1)).bind fun t183 => (if t183 = true then (spec_l10Moves.l0 k1 l1 l2 x9_1 x10_1 (wrap64 (x11_1 + 1)) a0_0 l0_1) else (if x10_1.length < 17592186044416 then (spec_l10Moves.l0 k1 l1 l2 x9_1 (x10_1 ++ [rd l2 x11_1]) (wrap64 (x11_1 + 1)) a0_0 l0_1) else (none)))) else (none)) = some r := by rw [if_pos rfl] at H;exact H
       clear H
       have H := H1
       clear H1
       by_cases c22 : x11_1 < (l2.length : Int)
       ·rw [if_pos c22] at H
        have c22b0 : decide (x11_1 < (l2.length : Int)) = true := decide_eq_true c22
        clear c22
        replace H := Option.bind_eq_some_iff.mp H
        obtain ⟨t183, A230, H⟩ := H
        replace H : (if t183 = true then (spec_l10Moves.l0 k1 l1 l2 x9_1 x10_1 (wrap64 (x11_1 + 1)) a0_0 l0_1) else (if x10_1.length < 17592186044416 then (spec_l10Moves.l0 k1 l1 l2 x9_1 (x10_1 ++ [rd l2 x11_1]) (wrap64 (x11_1 + 1)) a0_0 l0_1) else (none))) = some r := H
        have A23 := Aside0.mk A230
        clear A230
        by_cases c24 : t183 = true
        ·subst c24
         have H1 : (spec_l10Moves.l0 k1 l1 l2 x9_1 x10_1 (wrap64 (x11_1 + 1)) a0_0 l0_1) = some r := by rw [if_pos rfl] at H;exact H
         clear H
         have H := H1
         clear H1
         have H' := Aside0.mk H
         clear H
         have p180 : 0 ≤ (x11_1 : Int) := oA
         have q180 : x11_1 < (l1.length : Int) := oA
         obtain ⟨ad180, e180, hx180_0⟩ := Kd.at_int HR1.out x11_1 p180 q180
         cases e180
         replace hx180_0 := (HB.out.cell (World.block_lt_of_cell? w _ hx180_0)).trans hx180_0
         replace p180 := eq_true p180
         replace q180 := eq_true q180
         go_wp2_with (first | ((with_reducible refine gate_callee (f := 69) rfl ?_);refine goesL_ (some 31) rfl rfl Tryd.func69 (by kernel_rfl) rfl #[.slice A2 l2.length c2, .int .i64 (rd l1 x11_1)] rfl mM ?_;(with_reducible refine (spec_l1Has.calls k1 _ _ l2 (rd l1 x11_1) true _ ?side1 ?side2 A20.out).mono ?_);(case side1 => exact cP (Kd.C_below HR2.out HB.out));(case side2 => exact HC2.out);rintro e w' ⟨rfl, ⟨nd, rfl⟩⟩;refine ⟨_, rfl, ?_⟩;have p182 : 0 ≤ (x11_1 : Int) := oA;have q182 : x11_1 < (l2.length : Int) := oA;obtain ⟨ad182, e182, hx182_0⟩ := Kd.at_int HR2.out x11_1 p182 q182;cases e182;replace hx182_0 := (HB.out.cell (World.block_lt_of_cell? w _ hx182_0)).trans hx182_0;replace p182 := eq_true p182;replace q182 := eq_true q182) | ((with_reducible refine gate_callee (f := 69) rfl ?_);refine goesL_ (some 45) rfl rfl Tryd.func69 (by kernel_rfl) rfl #[.slice (some ad180) l1.length c1, .int .i64 (rd l2 x11_1)] rfl mM ?_;(with_reducible refine (spec_l1Has.calls k1 _ _ l1 (rd l2 x11_1) true _ ?side1 ?side2 A23.out).mono ?_);(case side1 => exact cP (Kd.C_below HR1.out (by repeat (first | (with_reducible first | exact HB.out | apply below_alloc | apply pw_below_drewN | apply below_drew1 | refine below_set ?_ GE166.out) | exact HB.out))));(case side2 => exact HC1.out);rintro e w' ⟨rfl, ⟨nd, rfl⟩⟩;refine ⟨_, rfl, ?_⟩))
         go_roundg k1
         case measure => have := HK1.out;omega
         case rel => exact ⟨(x9_1), (x10_1), (wrap64 (x11_1 + 1)), (by first | rfl | (simp;done) | (simp [*];done)), H', ⟨by have := HK1.out;omega⟩, ⟨by exact rP HO_9.out⟩, ⟨by exact rP HO_10.out⟩, ⟨by exact kP BK166.out⟩, ⟨by exact bB⟩⟩
        ·replace c24 := Bool.eq_false_iff.mpr c24
         subst c24
         have H1 : (if x10_1.length < 17592186044416 then (spec_l10Moves.l0 k1 l1 l2 x9_1 (x10_1 ++ [rd l2 x11_1]) (wrap64 (x11_1 + 1)) a0_0 l0_1) else (none)) = some r := by rw [if_neg (show ¬ (false = true) by decide)] at H;exact H
         clear H
         have H := H1
         clear H1
         by_cases c25 : x10_1.length < 17592186044416
         ·rw [if_pos c25] at H
          have LMc25 := Aside0.mk c25
          clear c25
          obtain ⟨y185, hy185⟩ : ∃ y_ : List Int, y_ = (x10_1 ++ [rd l2 x11_1]) := ⟨_, rfl⟩
          replace H : (spec_l10Moves.l0 k1 l1 l2 x9_1 y185 (wrap64 (x11_1 + 1)) a0_0 l0_1) = some r := by first | (rw [hy185];with_reducible exact H) | (have H2_ := (Option.bind_some _ _).symm.trans H;rw [hy185];with_reducible exact H2_) | (have H2_ := (Option.bind_some _ _).symm.trans H;with_reducible exact H2_) | with_reducible exact H | (rw [hy185];exact H) | exact H
          have Ny185 := Aside0.mk hy185
          clear hy185
          have H' := Aside0.mk H
          clear H
          have p180 : 0 ≤ (x11_1 : Int) := oA
          have q180 : x11_1 < (l1.length : Int) := oA
          obtain ⟨ad180, e180, hx180_0⟩ := Kd.at_int HR1.out x11_1 p180 q180
          cases e180
          replace hx180_0 := (HB.out.cell (World.block_lt_of_cell? w _ hx180_0)).trans hx180_0
          replace p180 := eq_true p180
          replace q180 := eq_true q180
          go_wp2_with (first | ((with_reducible refine gate_callee (f := 69) rfl ?_);refine goesL_ (some 31) rfl rfl Tryd.func69 (by kernel_rfl) rfl #[.slice A2 l2.length c2, .int .i64 (rd l1 x11_1)] rfl mM ?_;(with_reducible refine (spec_l1Has.calls k1 _ _ l2 (rd l1 x11_1) true _ ?side1 ?side2 A20.out).mono ?_);(case side1 => exact cP (Kd.C_below HR2.out HB.out));(case side2 => exact HC2.out);rintro e w' ⟨rfl, ⟨nd, rfl⟩⟩;refine ⟨_, rfl, ?_⟩;have p182 : 0 ≤ (x11_1 : Int) := oA;have q182 : x11_1 < (l2.length : Int) := oA;obtain ⟨ad182, e182, hx182_0⟩ := Kd.at_int HR2.out x11_1 p182 q182;cases e182;replace hx182_0 := (HB.out.cell (World.block_lt_of_cell? w _ hx182_0)).trans hx182_0;replace p182 := eq_true p182;replace q182 := eq_true q182) | ((with_reducible refine gate_callee (f := 69) rfl ?_);refine goesL_ (some 45) rfl rfl Tryd.func69 (by kernel_rfl) rfl #[.slice (some ad180) l1.length c1, .int .i64 (rd l2 x11_1)] rfl mM ?_;(with_reducible refine (spec_l1Has.calls k1 _ _ l1 (rd l2 x11_1) false _ ?side1 ?side2 A23.out).mono ?_);(case side1 => exact cP (Kd.C_below HR1.out (by repeat (first | (with_reducible first | exact HB.out | apply below_alloc | apply pw_below_drewN | apply below_drew1 | refine below_set ?_ GE166.out) | exact HB.out))));(case side2 => exact HC1.out);rintro e w' ⟨rfl, ⟨nd, rfl⟩⟩;refine ⟨_, rfl, ?_⟩;have p184 : 0 ≤ (x11_1 : Int) := oA;have q184 : x11_1 < (l2.length : Int) := oA;obtain ⟨ad184, e184, hx184_0⟩ := Kd.at_int HR2.out x11_1 p184 q184;obtain rfl : ad182 = ad184 := (by injection e184);replace hx184_0 := (HB.out.cell (World.block_lt_of_cell? w _ hx184_0)).trans hx184_0;replace p184 := eq_true p184;replace q184 := eq_true q184) | ((with_reducible refine gate_builtin (b := .append) (xs := #[.tmp 47, .tmp 52]) rfl ?_);at_builtin;refine Kd.R_append (Kd.int .i64) (w0 := w) w.heap.size rfl (.tmp 47) (.tmp 52) 32 3 (.int .i64 0) 8 rfl Tryd.underlying32 info3 rfl (by decide) (by omega) u10 x10_1 (rd l2 x11_1) [.int .i64 (rd l2 x11_1)] (fun k_ => some k_ ≠ (u9 : Value).ownBlock) (fun _ => False) rfl rfl ?aP (fun _ hk => hk.elim) ?aF ?aO ?aB ?aS ?aL ?_;(case aP => exact rfl);(case aB => exact (by exact bB));(case aF => exact (fun k_ hk => Kd.fresh' (Kd.R_lt (by exact rP HO_9.out)) k_ hk));(case aO => exact (by exact rP HO_10.out));(case aS => exact (below_size (by exact bB)));(case aL => have := LMc25.out;omega);intro v186 w26 ho hb hg hat;rw [← Ny185.out] at ho;have n0_ := Aside0.mk (Kd.R_after (ok := (fun _ => True)) (by exact rP (Kd.R_mono HO_9.out (fun _ hk => ⟨trivial, hk⟩))) hg hat);have n1_ := Aside0.mk (blk_grown (g := gb166) (o := .cells #[.int .i64 a0_0, .slice A0_1 l0_1.length c0_1] 28 (0, 0)) (by exact kP BK166.out) hg (Kd.R_ne HO_10.out BK166.out (by decide)));have n2_ := Aside0.mk (hb);have n3_ := Aside0.mk (ho);clear HO_9;clear BK166;clear HB;clear HO_10;have HO_9 := n0_;have BK166 := n1_;have HB := n2_;have HO187 := n3_;clear n0_ n1_ n2_ n3_;clear ho hb hg hat))
          go_roundg k1
          case measure => have := HK1.out;omega
          case rel => exact ⟨(x9_1), (y185), (wrap64 (x11_1 + 1)), (by first | rfl | (simp;done) | (simp [*];done)), H', ⟨by have := HK1.out;omega⟩, ⟨by refine rP ?_;exact Kd.R_mono HO_9.out (fun _ hk => hk.2)⟩, ⟨by exact rP HO187.out⟩, ⟨by exact kP BK166.out⟩, ⟨by exact bB⟩⟩
         ·rw [if_neg c25] at H
          exact absurd H (by simp)
       ·rw [if_neg c22] at H
        exact absurd H (by simp)
      ·replace c21 := Bool.eq_false_iff.mpr c21
       subst c21
       have H1 : (if x9_1.length < 17592186044416 then ((some (x9_1 ++ [rd l1 x11_1] : List Int)).bind fun y189 => (if x11_1 < (l2.length : Int) then ((spec_l1Has.f k1 l1 (rd l2 x11_1)).bind fun t193 => (if t193 = true then (spec_l10Moves.l0 k1 l1 l2 y189 x10_1 (wrap64 (x11_1 + 1)) a0_0 l0_1) else (if x10_1.length < 17592186044416 then (spec_l10Moves.l0 k1 l1 l2 y189 (x10_1 ++ [rd l2 x11_1]) (wrap64 (x11_1 + 1)) a0_0 l0_1) else (none)))) else (none))) else (none)) = some r := by rw [if_neg (show ¬ (false = true) by decide)] at H;exact H
       clear H
       have H := H1
       clear H1
       by_cases c27 : x9_1.length < 17592186044416
       ·rw [if_pos c27] at H
        have LMc27 := Aside0.mk c27
        clear c27
        obtain ⟨y189, hy189⟩ : ∃ y_ : List Int, y_ = (x9_1 ++ [rd l1 x11_1]) := ⟨_, rfl⟩
        replace H : (if x11_1 < (l2.length : Int) then ((spec_l1Has.f k1 l1 (rd l2 x11_1)).bind fun t193 => (if t193 = true then (spec_l10Moves.l0 k1 l1 l2 y189 x10_1 (wrap64 (x11_1 + 1)) a0_0 l0_1) else (if x10_1.length < 17592186044416 then (spec_l10Moves.l0 k1 l1 l2 y189 (x10_1 ++ [rd l2 x11_1]) (wrap64 (x11_1 + 1)) a0_0 l0_1) else (none)))) else (none)) = some r := by first | (rw [hy189];with_reducible exact H) | (have H2_ := (Option.bind_some _ _).symm.trans H;rw [hy189];with_reducible exact H2_) | (have H2_ := (Option.bind_some _ _).symm.trans H;with_reducible exact H2_) | with_reducible exact H | (rw [hy189];exact H) | exact H
        have Ny189 := Aside0.mk hy189
        clear hy189
        by_cases c28 : x11_1 < (l2.length : Int)
        ·rw [if_pos c28] at H
         have c28b0 : decide (x11_1 < (l2.length : Int)) = true := decide_eq_true c28
         clear c28
         replace H := Option.bind_eq_some_iff.mp H
         obtain ⟨t193, A290, H⟩ := H
         replace H : (if t193 = true then (spec_l10Moves.l0 k1 l1 l2 y189 x10_1 (wrap64 (x11_1 + 1)) a0_0 l0_1) else (if x10_1.length < 17592186044416 then (spec_l10Moves.l0 k1 l1 l2 y189 (x10_1 ++ [rd l2 x11_1]) (wrap64 (x11_1 + 1)) a0_0 l0_1) else (none))) = some r := H
         have A29 := Aside0.mk A290
         clear A290
         by_cases c30 : t193 = true
         ·subst c30
          have H1 : (spec_l10Moves.l0 k1 l1 l2 y189 x10_1 (wrap64 (x11_1 + 1)) a0_0 l0_1) = some r := by rw [if_pos rfl] at H;exact H
          clear H
          have H := H1
          clear H1
          have H' := Aside0.mk H
          clear H
          have p180 : 0 ≤ (x11_1 : Int) := oA
          have q180 : x11_1 < (l1.length : Int) := oA
          obtain ⟨ad180, e180, hx180_0⟩ := Kd.at_int HR1.out x11_1 p180 q180
          cases e180
          replace hx180_0 := (HB.out.cell (World.block_lt_of_cell? w _ hx180_0)).trans hx180_0
          replace p180 := eq_true p180
          replace q180 := eq_true q180
          go_wp2_with (first | ((with_reducible refine gate_callee (f := 69) rfl ?_);refine goesL_ (some 31) rfl rfl Tryd.func69 (by kernel_rfl) rfl #[.slice A2 l2.length c2, .int .i64 (rd l1 x11_1)] rfl mM ?_;(with_reducible refine (spec_l1Has.calls k1 _ _ l2 (rd l1 x11_1) false _ ?side1 ?side2 A20.out).mono ?_);(case side1 => exact cP (Kd.C_below HR2.out HB.out));(case side2 => exact HC2.out);rintro e w' ⟨rfl, ⟨nd, rfl⟩⟩;refine ⟨_, rfl, ?_⟩;have p188 : 0 ≤ (x11_1 : Int) := oA;have q188 : x11_1 < (l1.length : Int) := oA;obtain ⟨ad188, e188, hx188_0⟩ := Kd.at_int HR1.out x11_1 p188 q188;obtain rfl : ad180 = ad188 := (by injection e188);replace hx188_0 := (HB.out.cell (World.block_lt_of_cell? w _ hx188_0)).trans hx188_0;replace p188 := eq_true p188;replace q188 := eq_true q188) | ((with_reducible refine gate_builtin (b := .append) (xs := #[.tmp 33, .tmp 38]) rfl ?_);at_builtin;refine Kd.R_append (Kd.int .i64) (w0 := w) w.heap.size rfl (.tmp 33) (.tmp 38) 32 3 (.int .i64 0) 8 rfl Tryd.underlying32 info3 rfl (by decide) (by omega) u9 x9_1 (rd l1 x11_1) [.int .i64 (rd l1 x11_1)] (fun k_ => some k_ ≠ (u10 : Value).ownBlock) (fun _ => False) rfl rfl ?aP (fun _ hk => hk.elim) ?aF ?aO ?aB ?aS ?aL ?_;(case aP => exact rfl);(case aB => exact (by exact bB));(case aF => exact (fun k_ hk => Kd.fresh' (Kd.R_lt (by exact rP HO_10.out)) k_ hk));(case aO => exact (by exact rP HO_9.out));(case aS => exact (below_size (by exact bB)));(case aL => have := LMc27.out;omega);intro v190 w31 ho hb hg hat;rw [← Ny189.out] at ho;have n0_ := Aside0.mk (Kd.R_after (ok := (fun _ => True)) (by exact rP (Kd.R_mono HO_10.out (fun _ hk => ⟨trivial, hk⟩))) hg hat);have n1_ := Aside0.mk (blk_grown (g := gb166) (o := .cells #[.int .i64 a0_0, .slice A0_1 l0_1.length c0_1] 28 (0, 0)) (by exact kP BK166.out) hg (Kd.R_ne HO_9.out BK166.out (by decide)));have n2_ := Aside0.mk (hb);have n3_ := Aside0.mk (ho);clear HO_10;clear BK166;clear HB;clear HO_9;have HO_10 := n0_;have BK166 := n1_;have HB := n2_;have HO191 := n3_;clear n0_ n1_ n2_ n3_;clear ho hb hg hat;have p192 : 0 ≤ (x11_1 : Int) := oA;have q192 : x11_1 < (l2.length : Int) := oA;obtain ⟨ad192, e192, hx192_0⟩ := Kd.at_int HR2.out x11_1 p192 q192;cases e192;replace hx192_0 := (HB.out.cell (World.block_lt_of_cell? w _ hx192_0)).trans hx192_0;replace p192 := eq_true p192;replace q192 := eq_true q192) | ((with_reducible refine gate_callee (f := 69) rfl ?_);refine goesL_ (some 45) rfl rfl Tryd.func69 (by kernel_rfl) rfl #[.slice (some ad180) l1.length c1, .int .i64 (rd l2 x11_1)] rfl mM ?_;(with_reducible refine (spec_l1Has.calls k1 _ _ l1 (rd l2 x11_1) true _ ?side1 ?side2 A29.out).mono ?_);(case side1 => exact cP (Kd.C_below HR1.out HB.out));(case side2 => exact HC1.out);rintro e w' ⟨rfl, ⟨nd, rfl⟩⟩;refine ⟨_, rfl, ?_⟩))
          go_roundg k1
          case measure => have := HK1.out;omega
          case rel => exact ⟨(y189), (x10_1), (wrap64 (x11_1 + 1)), (by first | rfl | (simp;done) | (simp [*];done)), H', ⟨by have := HK1.out;omega⟩, ⟨by exact rP HO191.out⟩, ⟨by refine rP ?_;exact Kd.R_mono HO_10.out (fun _ hk => hk.2)⟩, ⟨by exact kP BK166.out⟩, ⟨by exact bB⟩⟩
         ·replace c30 := Bool.eq_false_iff.mpr c30
          subst c30
          have H1 : (if x10_1.length < 17592186044416 then (spec_l10Moves.l0 k1 l1 l2 y189 (x10_1 ++ [rd l2 x11_1]) (wrap64 (x11_1 + 1)) a0_0 l0_1) else (none)) = some r := by rw [if_neg (show ¬ (false = true) by decide)] at H;exact H
          clear H
          have H := H1
          clear H1
          by_cases c32 : x10_1.length < 17592186044416
          ·rw [if_pos c32] at H
           have LMc32 := Aside0.mk c32
           clear c32
           obtain ⟨y195, hy195⟩ : ∃ y_ : List Int, y_ = (x10_1 ++ [rd l2 x11_1]) := ⟨_, rfl⟩
           replace H : (spec_l10Moves.l0 k1 l1 l2 y189 y195 (wrap64 (x11_1 + 1)) a0_0 l0_1) = some r := by first | (rw [hy195];with_reducible exact H) | (have H2_ := (Option.bind_some _ _).symm.trans H;rw [hy195];with_reducible exact H2_) | (have H2_ := (Option.bind_some _ _).symm.trans H;with_reducible exact H2_) | with_reducible exact H | (rw [hy195];exact H) | exact H
           have Ny195 := Aside0.mk hy195
           clear hy195
           have H' := Aside0.mk H
           clear H
           have p180 : 0 ≤ (x11_1 : Int) := oA
           have q180 : x11_1 < (l1.length : Int) := oA
           obtain ⟨ad180, e180, hx180_0⟩ := Kd.at_int HR1.out x11_1 p180 q180
           cases e180
           replace hx180_0 := (HB.out.cell (World.block_lt_of_cell? w _ hx180_0)).trans hx180_0
           replace p180 := eq_true p180
           replace q180 := eq_true q180
           go_wp2_with (first | ((with_reducible refine gate_callee (f := 69) rfl ?_);refine goesL_ (some 31) rfl rfl Tryd.func69 (by kernel_rfl) rfl #[.slice A2 l2.length c2, .int .i64 (rd l1 x11_1)] rfl mM ?_;(with_reducible refine (spec_l1Has.calls k1 _ _ l2 (rd l1 x11_1) false _ ?side1 ?side2 A20.out).mono ?_);(case side1 => exact cP (Kd.C_below HR2.out HB.out));(case side2 => exact HC2.out);rintro e w' ⟨rfl, ⟨nd, rfl⟩⟩;refine ⟨_, rfl, ?_⟩;have p188 : 0 ≤ (x11_1 : Int) := oA;have q188 : x11_1 < (l1.length : Int) := oA;obtain ⟨ad188, e188, hx188_0⟩ := Kd.at_int HR1.out x11_1 p188 q188;obtain rfl : ad180 = ad188 := (by injection e188);replace hx188_0 := (HB.out.cell (World.block_lt_of_cell? w _ hx188_0)).trans hx188_0;replace p188 := eq_true p188;replace q188 := eq_true q188) | ((with_reducible refine gate_builtin (b := .append) (xs := #[.tmp 33, .tmp 38]) rfl ?_);at_builtin;refine Kd.R_append (Kd.int .i64) (w0 := w) w.heap.size rfl (.tmp 33) (.tmp 38) 32 3 (.int .i64 0) 8 rfl Tryd.underlying32 info3 rfl (by decide) (by omega) u9 x9_1 (rd l1 x11_1) [.int .i64 (rd l1 x11_1)] (fun k_ => some k_ ≠ (u10 : Value).ownBlock) (fun _ => False) rfl rfl ?aP (fun _ hk => hk.elim) ?aF ?aO ?aB ?aS ?aL ?_;(case aP => exact rfl);(case aB => exact (by exact bB));(case aF => exact (fun k_ hk => Kd.fresh' (Kd.R_lt (by exact rP HO_10.out)) k_ hk));(case aO => exact (by exact rP HO_9.out));(case aS => exact (below_size (by exact bB)));(case aL => have := LMc27.out;omega);intro v190 w33 ho hb hg hat;rw [← Ny189.out] at ho;have n0_ := Aside0.mk (Kd.R_after (ok := (fun _ => True)) (by exact rP (Kd.R_mono HO_10.out (fun _ hk => ⟨trivial, hk⟩))) hg hat);have n1_ := Aside0.mk (blk_grown (g := gb166) (o := .cells #[.int .i64 a0_0, .slice A0_1 l0_1.length c0_1] 28 (0, 0)) (by exact kP BK166.out) hg (Kd.R_ne HO_9.out BK166.out (by decide)));have n2_ := Aside0.mk (hb);have n3_ := Aside0.mk (ho);clear HO_10;clear BK166;clear HB;clear HO_9;have HO_10 := n0_;have BK166 := n1_;have HB := n2_;have HO191 := n3_;clear n0_ n1_ n2_ n3_;clear ho hb hg hat;have p192 : 0 ≤ (x11_1 : Int) := oA;have q192 : x11_1 < (l2.length : Int) := oA;obtain ⟨ad192, e192, hx192_0⟩ := Kd.at_int HR2.out x11_1 p192 q192;cases e192;replace hx192_0 := (HB.out.cell (World.block_lt_of_cell? w _ hx192_0)).trans hx192_0;replace p192 := eq_true p192;replace q192 := eq_true q192) | ((with_reducible refine gate_callee (f := 69) rfl ?_);refine goesL_ (some 45) rfl rfl Tryd.func69 (by kernel_rfl) rfl #[.slice (some ad180) l1.length c1, .int .i64 (rd l2 x11_1)] rfl mM ?_;(with_reducible refine (spec_l1Has.calls k1 _ _ l1 (rd l2 x11_1) false _ ?side1 ?side2 A29.out).mono ?_);(case side1 => exact cP (Kd.C_below HR1.out HB.out));(case side2 => exact HC1.out);rintro e w' ⟨rfl, ⟨nd, rfl⟩⟩;refine ⟨_, rfl, ?_⟩;have p194 : 0 ≤ (x11_1 : Int) := oA;have q194 : x11_1 < (l2.length : Int) := oA;obtain ⟨ad194, e194, hx194_0⟩ := Kd.at_int HR2.out x11_1 p194 q194;obtain rfl : ad192 = ad194 := (by injection e194);replace hx194_0 := (HB.out.cell (World.block_lt_of_cell? w _ hx194_0)).trans hx194_0;replace p194 := eq_true p194;replace q194 := eq_true q194) | ((with_reducible refine gate_builtin (b := .append) (xs := #[.tmp 47, .tmp 52]) rfl ?_);at_builtin;refine Kd.R_append (Kd.int .i64) (w0 := w) w.heap.size rfl (.tmp 47) (.tmp 52) 32 3 (.int .i64 0) 8 rfl Tryd.underlying32 info3 rfl (by decide) (by omega) u10 x10_1 (rd l2 x11_1) [.int .i64 (rd l2 x11_1)] (fun k_ => some k_ ≠ (v190 : Value).ownBlock) (fun _ => False) rfl rfl ?aP (fun _ hk => hk.elim) ?aF ?aO ?aB ?aS ?aL ?_;(case aP => exact rfl);(case aB => exact (by exact bB));(case aF => exact (fun k_ hk => Kd.fresh' (Kd.R_lt (by exact rP HO191.out)) k_ hk));(case aO => exact (by refine rP ?_;exact Kd.R_mono HO_10.out (fun _ hk => hk.2)));(case aS => exact (below_size (by exact bB)));(case aL => have := LMc32.out;omega);intro v196 w34 ho hb hg hat;rw [← Ny195.out] at ho;have n0_ := Aside0.mk (blk_grown (g := gb166) (o := .cells #[.int .i64 a0_0, .slice A0_1 l0_1.length c0_1] 28 (0, 0)) (by exact kP BK166.out) hg (Kd.R_ne HO_10.out BK166.out (by decide)));have n1_ := Aside0.mk (Kd.R_after (ok := (fun _ => True)) (by exact rP (Kd.R_mono HO191.out (fun _ hk => ⟨trivial, hk⟩))) hg hat);have n2_ := Aside0.mk (hb);have n3_ := Aside0.mk (ho);clear BK166;clear HO191;clear HB;clear HO_10;have BK166 := n0_;have HO191 := n1_;have HB := n2_;have HO197 := n3_;clear n0_ n1_ n2_ n3_;clear ho hb hg hat))
           go_roundg k1
           case measure => have := HK1.out;omega
           case rel => exact ⟨(y189), (y195), (wrap64 (x11_1 + 1)), (by first | rfl | (simp;done) | (simp [*];done)), H', ⟨by have := HK1.out;omega⟩, ⟨by refine rP ?_;exact Kd.R_mono HO191.out (fun _ hk => hk.2)⟩, ⟨by exact rP HO197.out⟩, ⟨by exact kP BK166.out⟩, ⟨by exact bB⟩⟩
          ·rw [if_neg c32] at H
           exact absurd H (by simp)
        ·rw [if_neg c28] at H
         exact absurd H (by simp)
       ·rw [if_neg c27] at H
        exact absurd H (by simp)
     ·rw [if_neg c19] at H
      exact absurd H (by simp)
    ·rw [if_neg c18] at H
     have c18b0 : decide (x11_1 < (l1.length : Int)) = false := decide_eq_false c18
     clear c18
     by_cases c35 : (x9_1.length : Int) = 1
     ·rw [if_pos c35] at H
      have c35b0 : ((x9_1.length : Int) == 1) = true := beq_iff_eq.mpr c35
      have c35b1 : ((x9_1.length : Int) != 1) = false := bne_eq_false_iff_eq.mpr c35
      clear c35
      by_cases c36 : 0 < (x9_1.length : Int)
      ·rw [if_pos c36] at H
       have c36b0 : decide (0 < (x9_1.length : Int)) = true := decide_eq_true c36
       have c36b1 : decide (0 < x9_1.length) = true := decide_eq_true (by omega)
       clear c36
       by_cases c37 : 0 < (x10_1.length : Int)
       ·rw [if_pos c37] at H
        have c37b0 : decide (0 < (x10_1.length : Int)) = true := decide_eq_true c37
        have c37b1 : decide (0 < x10_1.length) = true := decide_eq_true (by omega)
        clear c37
        replace H := Option.bind_eq_some_iff.mp H
        obtain ⟨t179, A380, H⟩ := H
        replace H : (some t179) = some r := H
        have A38 := Aside0.mk A380
        clear A380
        obtain rfl := Option.some.inj H
        try go_wp2
        have n0_ := Aside0.mk (Kd.R_drew HO_9.out)
        have n1_ := Aside0.mk (Kd.R_drew HO_10.out)
        have n2_ := Aside0.mk (blk_drew BK166.out)
        have n3_ := Aside0.mk (below_drew1 HB.out)
        clear HO_9
        clear HO_10
        clear BK166
        clear HB
        have HO_9 := n0_
        have HO_10 := n1_
        have BK166 := n2_
        have HB := n3_
        clear n0_ n1_ n2_ n3_
        obtain ⟨Ao40, co40, eo40⟩ := Kd.R_slice HO_9.out
        (first | subst eo40 | (injection eo40 with f1_ f2_ f3_;have f4_ := f1_.symm;have f5_ := f3_.symm;clear f1_ f2_ f3_;subst f4_;subst f5_))
        have p177 : 0 ≤ (0 : Int) := (by omega)
        have q177 : 0 < (x9_1.length : Int) := oA
        obtain ⟨ad177, e177, hx177_0⟩ := Kd.at_int (Kd.R_reads' HO_9.out).2.2 0 p177 q177
        cases e177
        have qi177 : (0 < x9_1.length) = True := eq_true (by omega)
        (try rw [show ((0 : Int)).toNat = 0 from rfl] at hx177_0)
        (try rw [Addr.add_zero'] at hx177_0)
        replace p177 := eq_true p177
        replace q177 := eq_true q177
        obtain ⟨Ao41, co41, eo41⟩ := Kd.R_slice HO_10.out
        (first | subst eo41 | (injection eo41 with f1_ f2_ f3_;have f4_ := f1_.symm;have f5_ := f3_.symm;clear f1_ f2_ f3_;subst f4_;subst f5_))
        have p178 : 0 ≤ (0 : Int) := (by omega)
        have q178 : 0 < (x10_1.length : Int) := oA
        obtain ⟨ad178, e178, hx178_0⟩ := Kd.at_int (Kd.R_reads' HO_10.out).2.2 0 p178 q178
        cases e178
        have qi178 : (0 < x10_1.length) = True := eq_true (by omega)
        (try rw [show ((0 : Int)).toNat = 0 from rfl] at hx178_0)
        (try rw [Addr.add_zero'] at hx178_0)
        replace p178 := eq_true p178
        replace q178 := eq_true q178
        refine start_ (n := 14) (S := fun w' => w'.cell? ⟨gb166, 0, none⟩ = some (.int .i64 a0_0) ∧ w'.cell? ⟨gb166, 1, none⟩ = some (.slice A0_1 l0_1.length c0_1) ∧ w'.cell? ad177 = some (.int .i64 (rd x9_1 0)) ∧ w'.cell? ad178 = some (.int .i64 (rd x10_1 0))) (ds := []) #[false,false,false,false,false,false,false,false,false,false,false,false,false,false] (by kernel_rfl) rfl rfl ⟨(blk_cell BK166.out 0).trans rfl, (blk_cell BK166.out 1).trans rfl, hx177_0, hx178_0⟩ (fun hHeld => ?_);refine with_tabW spec_l10Moves.tab11 spec_l10Moves.bits11 (fun HT_ HW_ => ?_)
        generalize wr.drew = w39 at HO_9 HO_10 BK166 HB hx177_0 hx178_0 hHeld ⊢
        refine pure_ (i := 0) (N := some 54) (v := ?_) (a' := ?_) #[true,false,false,false,false,false,false,false,false,false,false,false,false,false] rfl rfl (any_of HT_.out (by kernel_rfl)) (fun _ _ _ h => h) (Or.inl ⟨by rfl, ?_⟩) ?_ ?_
        rotate_left
        ·intro w'
         go_simp
         with_reducible rfl
        rotate_left
        ·simp only [Act.put, List.setIfInBounds_toArray, List.set_cons_zero, List.set_cons_succ, i64_w, i32_w]
         rfl
        refine pure_ (i := 1) (N := some 55) (v := ?_) (a' := ?_) #[true,true,false,false,false,false,false,false,false,false,false,false,false,false] rfl rfl (any_of HT_.out (by kernel_rfl)) (fun _ _ _ h => h) (Or.inl ⟨by rfl, ?_⟩) ?_ ?_
        rotate_left
        ·intro w'
         go_simp
         with_reducible rfl
        rotate_left
        ·simp only [Act.put, List.setIfInBounds_toArray, List.set_cons_zero, List.set_cons_succ, i64_w, i32_w]
         rfl
        refine pure_ (i := 2) (N := some 56) (v := ?_) (a' := ?_) #[true,true,true,false,false,false,false,false,false,false,false,false,false,false] rfl rfl (any_of HT_.out (by kernel_rfl)) (fun _ _ _ h => h) (Or.inl ⟨by rfl, ?_⟩) ?_ ?_
        rotate_left
        ·intro w'
         go_simp
         with_reducible rfl
        rotate_left
        ·simp only [Act.put, List.setIfInBounds_toArray, List.set_cons_zero, List.set_cons_succ, i64_w, i32_w]
         rfl
        refine pure_ (i := 3) (N := some 57) (v := ?_) (a' := ?_) #[true,true,true,true,false,false,false,false,false,false,false,false,false,false] rfl rfl (any_of HT_.out (by kernel_rfl)) (fun _ _ _ h => h) (Or.inl ⟨by rfl, ?_⟩) ?_ ?_
        rotate_left
        ·intro w'
         go_simp
         with_reducible rfl
        rotate_left
        ·simp only [Act.put, List.setIfInBounds_toArray, List.set_cons_zero, List.set_cons_succ, i64_w, i32_w]
         rfl
        refine pure_ (i := 5) (N := some 59) (v := ?_) (a' := ?_) #[true,true,true,true,false,true,false,false,false,false,false,false,false,false] rfl rfl (any_of HT_.out (by kernel_rfl)) (fun _ _ _ h => h) (Or.inl ⟨by rfl, ?_⟩) ?_ ?_
        rotate_left
        ·intro w'
         go_simp
         with_reducible rfl
        rotate_left
        ·simp only [Act.put, List.setIfInBounds_toArray, List.set_cons_zero, List.set_cons_succ, i64_w, i32_w]
         rfl
        refine pure_ (i := 6) (N := some 60) (v := ?_) (a' := ?_) #[true,true,true,true,false,true,true,false,false,false,false,false,false,false] rfl rfl (any_of HT_.out (by kernel_rfl)) (fun _ _ _ h => h) (Or.inl ⟨by rfl, ?_⟩) ?_ ?_
        rotate_left
        ·intro w'
         go_simp
         with_reducible rfl
        rotate_left
        ·simp only [Act.put, List.setIfInBounds_toArray, List.set_cons_zero, List.set_cons_succ, i64_w, i32_w]
         rfl
        refine pure_ (i := 8) (N := some 62) (v := ?_) (a' := ?_) #[true,true,true,true,false,true,true,false,true,false,false,false,false,false] rfl rfl (any_of HT_.out (by kernel_rfl)) (fun _ _ _ h => h) (Or.inl ⟨by rfl, ?_⟩) ?_ ?_
        rotate_left
        ·intro w'
         go_simp
         with_reducible rfl
        rotate_left
        ·simp only [Act.put, List.setIfInBounds_toArray, List.set_cons_zero, List.set_cons_succ, i64_w, i32_w]
         rfl
        refine pure_ (i := 9) (N := some 63) (v := ?_) (a' := ?_) #[true,true,true,true,false,true,true,false,true,true,false,false,false,false] rfl rfl (any_of HT_.out (by kernel_rfl)) (fun _ _ _ h => h) (Or.inl ⟨by rfl, ?_⟩) ?_ ?_
        rotate_left
        ·intro w'
         go_simp
         with_reducible rfl
        rotate_left
        ·simp only [Act.put, List.setIfInBounds_toArray, List.set_cons_zero, List.set_cons_succ, i64_w, i32_w]
         rfl
        refine take_ (i := 4) (N := some 58) (v := ?_) (a' := ?_) #[true,true,true,true,true,true,true,false,true,true,false,false,false,false] rfl rfl (take_ofW HT_.out HW_.out (by kernel_rfl)) (fun _ _ _ h => h) (Or.inl ⟨by rfl, ?_⟩) hHeld ?_ ?_
        rotate_left
        ·rintro w' ⟨s0, s1, s2, s3⟩
         go_simp
         with_reducible rfl
        rotate_left
        ·simp only [Act.put, List.setIfInBounds_toArray, List.set_cons_zero, List.set_cons_succ, i64_w, i32_w]
         rfl
        refine take_ (i := 7) (N := some 61) (v := ?_) (a' := ?_) #[true,true,true,true,true,true,true,true,true,true,false,false,false,false] rfl rfl (take_ofW HT_.out HW_.out (by kernel_rfl)) (fun _ _ _ h => h) (Or.inl ⟨by rfl, ?_⟩) hHeld ?_ ?_
        rotate_left
        ·rintro w' ⟨s0, s1, s2, s3⟩
         go_simp
         with_reducible rfl
        rotate_left
        ·simp only [Act.put, List.setIfInBounds_toArray, List.set_cons_zero, List.set_cons_succ, i64_w, i32_w]
         rfl
        refine take_ (i := 10) (N := some 64) (v := ?_) (a' := ?_) #[true,true,true,true,true,true,true,true,true,true,true,false,false,false] rfl rfl (take_ofW HT_.out HW_.out (by kernel_rfl)) (fun _ _ _ h => h) (Or.inl ⟨by rfl, ?_⟩) hHeld ?_ ?_
        rotate_left
        ·rintro w' ⟨s0, s1, s2, s3⟩
         go_simp
         with_reducible rfl
        rotate_left
        ·simp only [Act.put, List.setIfInBounds_toArray, List.set_cons_zero, List.set_cons_succ, i64_w, i32_w]
         rfl
        refine one_ (i := 11) (N := some 65) #[true,true,true,true,true,true,true,true,true,true,true,true,false,false] rfl rfl (one_of HT_.out (by kernel_rfl)) (by decide) (fun K hK => ?_)
        refine goes_ Tryd.func91 (by kernel_rfl) rfl #[.agg #[.int .i64 a0_0, .slice A0_1 l0_1.length c0_1], .int .i64 (rd x9_1 0), .int .i64 (rd x10_1 0)] (by rfl) rfl rfl mM ?_
        with_reducible refine (spec_l2Near.calls k1 a0_0 _ _ l0_1 (rd x9_1 0) (rd x10_1 0) t179 _ ?side1 ?side2 A38.out).mono ?_
        (case side1 => exact cP (Kd.C_below HR0_1.out HB.out))
        (case side2 => exact HC0_1.out)
        rintro e w42 ⟨rfl, hb⟩
        have HS2_ := (hb.cell (World.block_lt_of_cell? _ _ (hHeld.2.2.1))).trans (hHeld.2.2.1)
        have HS3_ := (hb.cell (World.block_lt_of_cell? _ _ (hHeld.2.2.2))).trans (hHeld.2.2.2)
        refine ⟨_, rfl, ?_⟩
        have n0_ := Aside0.mk (Kd.R_below (by exact rP HO_9.out) hb)
        have n1_ := Aside0.mk (Kd.R_below (by exact rP HO_10.out) hb)
        have n2_ := Aside0.mk (blk_below (g := gb166) (o := .cells #[.int .i64 a0_0, .slice A0_1 l0_1.length c0_1] 28 (0, 0)) (by exact kP BK166.out) hb)
        have n3_ := Aside0.mk (below_step (by exact bB) hb)
        clear HO_9
        clear HO_10
        clear BK166
        clear HB
        have HO_9 := n0_
        have HO_10 := n1_
        have BK166 := n2_
        have HB := n3_
        clear n0_ n1_ n2_ n3_
        (try clear hb)
        (try clear hb2)
        (try clear hk)
        (try clear hi)
        refine hK.out _ _ ⟨(blk_cell BK166.out 0).trans rfl, (blk_cell BK166.out 1).trans rfl, HS2_, HS3_⟩ (fun hHeld => ?_)
        clear hK K
        refine norm_ (a' := ?_) ?_ ?_
        rotate_left
        ·show Act.put _ (some 65) _ = _
         simp only [Act.put, List.setIfInBounds_toArray, List.set_cons_zero, List.set_cons_succ, i64_w, i32_w]
         rfl
        refine pure_ (i := 12) (N := some 66) (v := ?_) (a' := ?_) #[true,true,true,true,true,true,true,true,true,true,true,true,true,false] rfl rfl (any_of HT_.out (by kernel_rfl)) (fun _ _ _ h => h) (Or.inl ⟨by rfl, ?_⟩) ?_ ?_
        rotate_left
        ·intro w'
         go_simp
         with_reducible rfl
        rotate_left
        ·simp only [Act.put, List.setIfInBounds_toArray, List.set_cons_zero, List.set_cons_succ, i64_w, i32_w]
         rfl
        refine pure_ (i := 13) (N := some 8) (v := ?_) (a' := ?_) #[true,true,true,true,true,true,true,true,true,true,true,true,true,true] rfl rfl (any_of HT_.out (by kernel_rfl)) (fun _ _ _ h => h) (Or.inl ⟨by rfl, ?_⟩) ?_ ?_
        rotate_left
        ·intro w'
         go_simp
         with_reducible rfl
        rotate_left
        ·simp only [Act.put, List.setIfInBounds_toArray, List.set_cons_zero, List.set_cons_succ, i64_w, i32_w]
         rfl
        refine done_ (done_of HT_.out (by kernel_rfl)) ?_
        try go_wp2
        go_ret
        exact ⟨by first | rfl | (simp [errW_none, errW_some] <;> rfl) | (simp [*, errW_none, errW_some] <;> rfl), by exact bB⟩
       ·rw [if_neg c37] at H
        exact absurd H (by simp)
      ·rw [if_neg c36] at H
       exact absurd H (by simp)
     ·rw [if_neg c35] at H
      have c35b0 : ((x9_1.length : Int) == 1) = false := beq_eq_false_iff_ne.mpr c35
      have c35b1 : ((x9_1.length : Int) != 1) = true := bne_iff_ne.mpr c35
      obtain rfl := Option.some.inj H
      try go_wp2
      have n0_ := Aside0.mk (Kd.R_drew HO_9.out)
      have n1_ := Aside0.mk (Kd.R_drew HO_10.out)
      have n2_ := Aside0.mk (blk_drew BK166.out)
      have n3_ := Aside0.mk (below_drew1 HB.out)
      clear HO_9
      clear HO_10
      clear BK166
      clear HB
      have HO_9 := n0_
      have HO_10 := n1_
      have BK166 := n2_
      have HB := n3_
      clear n0_ n1_ n2_ n3_
      obtain ⟨Ao44, co44, eo44⟩ := Kd.R_slice HO_9.out
      (first | subst eo44 | (injection eo44 with f1_ f2_ f3_;have f4_ := f1_.symm;have f5_ := f3_.symm;clear f1_ f2_ f3_;subst f4_;subst f5_))
      refine start_ (n := 14) (S := fun w' => True) (ds := []) #[false,false,false,false,false,false,false,false,false,false,false,false,false,false] (by kernel_rfl) rfl rfl trivial (fun hHeld => ?_);refine with_tabW spec_l10Moves.tab11 spec_l10Moves.bits11 (fun HT_ HW_ => ?_)
      generalize wr.drew = w43 at HO_9 HO_10 BK166 HB hHeld ⊢
      refine pure_ (i := 0) (N := some 54) (v := ?_) (a' := ?_) #[true,false,false,false,false,false,false,false,false,false,false,false,false,false] rfl rfl (any_of HT_.out (by kernel_rfl)) (fun _ _ _ h => h) (Or.inl ⟨by rfl, ?_⟩) ?_ ?_
      rotate_left
      ·intro w'
       go_simp
       with_reducible rfl
      rotate_left
      ·simp only [Act.put, List.setIfInBounds_toArray, List.set_cons_zero, List.set_cons_succ, i64_w, i32_w]
       rfl
      refine pure_ (i := 1) (N := some 55) (v := ?_) (a' := ?_) #[true,true,false,false,false,false,false,false,false,false,false,false,false,false] rfl rfl (any_of HT_.out (by kernel_rfl)) (fun _ _ _ h => h) (Or.inl ⟨by rfl, ?_⟩) ?_ ?_
      rotate_left
      ·intro w'
       go_simp
       with_reducible rfl
      rotate_left
      ·simp only [Act.put, List.setIfInBounds_toArray, List.set_cons_zero, List.set_cons_succ, i64_w, i32_w]
       rfl
      refine pure_ (i := 2) (N := some 56) (v := ?_) (a' := ?_) #[true,true,true,false,false,false,false,false,false,false,false,false,false,false] rfl rfl (any_of HT_.out (by kernel_rfl)) (fun _ _ _ h => h) (Or.inl ⟨by rfl, ?_⟩) ?_ ?_
      rotate_left
      ·intro w'
       go_simp
       with_reducible rfl
      rotate_left
      ·simp only [Act.put, List.setIfInBounds_toArray, List.set_cons_zero, List.set_cons_succ, i64_w, i32_w]
       rfl
      refine pure_ (i := 3) (N := some 57) (v := ?_) (a' := ?_) #[true,true,true,true,false,false,false,false,false,false,false,false,false,false] rfl rfl (any_of HT_.out (by kernel_rfl)) (fun _ _ _ h => h) (Or.inl ⟨by rfl, ?_⟩) ?_ ?_
      rotate_left
      ·intro w'
       go_simp
       with_reducible rfl
      rotate_left
      ·simp only [Act.put, List.setIfInBounds_toArray, List.set_cons_zero, List.set_cons_succ, i64_w, i32_w]
       rfl
      refine pure_ (i := 4) (N := some 58) (v := undef) (a' := ?_) #[true,true,true,true,true,false,false,false,false,false,false,false,false,false] rfl rfl (any_of HT_.out (by kernel_rfl)) (fun _ _ _ h => h) (Or.inr ⟨by rfl, rfl⟩) ?_ ?_
      rotate_left
      ·simp only [Act.put, List.setIfInBounds_toArray, List.set_cons_zero, List.set_cons_succ, i64_w, i32_w]
       rfl
      refine pure_ (i := 5) (N := some 59) (v := undef) (a' := ?_) #[true,true,true,true,true,true,false,false,false,false,false,false,false,false] rfl rfl (any_of HT_.out (by kernel_rfl)) (fun _ _ _ h => h) (Or.inr ⟨by rfl, rfl⟩) ?_ ?_
      rotate_left
      ·simp only [Act.put, List.setIfInBounds_toArray, List.set_cons_zero, List.set_cons_succ, i64_w, i32_w]
       rfl
      refine pure_ (i := 6) (N := some 60) (v := undef) (a' := ?_) #[true,true,true,true,true,true,true,false,false,false,false,false,false,false] rfl rfl (any_of HT_.out (by kernel_rfl)) (fun _ _ _ h => h) (Or.inr ⟨by rfl, rfl⟩) ?_ ?_
      rotate_left
      ·simp only [Act.put, List.setIfInBounds_toArray, List.set_cons_zero, List.set_cons_succ, i64_w, i32_w]
       rfl
      refine pure_ (i := 7) (N := some 61) (v := undef) (a' := ?_) #[true,true,true,true,true,true,true,true,false,false,false,false,false,false] rfl rfl (any_of HT_.out (by kernel_rfl)) (fun _ _ _ h => h) (Or.inr ⟨by rfl, rfl⟩) ?_ ?_
      rotate_left
      ·simp only [Act.put, List.setIfInBounds_toArray, List.set_cons_zero, List.set_cons_succ, i64_w, i32_w]
       rfl
      refine pure_ (i := 8) (N := some 62) (v := undef) (a' := ?_) #[true,true,true,true,true,true,true,true,true,false,false,false,false,false] rfl rfl (any_of HT_.out (by kernel_rfl)) (fun _ _ _ h => h) (Or.inr ⟨by rfl, rfl⟩) ?_ ?_
      rotate_left
      ·simp only [Act.put, List.setIfInBounds_toArray, List.set_cons_zero, List.set_cons_succ, i64_w, i32_w]
       rfl
      refine pure_ (i := 9) (N := some 63) (v := undef) (a' := ?_) #[true,true,true,true,true,true,true,true,true,true,false,false,false,false] rfl rfl (any_of HT_.out (by kernel_rfl)) (fun _ _ _ h => h) (Or.inr ⟨by rfl, rfl⟩) ?_ ?_
      rotate_left
      ·simp only [Act.put, List.setIfInBounds_toArray, List.set_cons_zero, List.set_cons_succ, i64_w, i32_w]
       rfl
      refine pure_ (i := 10) (N := some 64) (v := undef) (a' := ?_) #[true,true,true,true,true,true,true,true,true,true,true,false,false,false] rfl rfl (any_of HT_.out (by kernel_rfl)) (fun _ _ _ h => h) (Or.inr ⟨by rfl, rfl⟩) ?_ ?_
      rotate_left
      ·simp only [Act.put, List.setIfInBounds_toArray, List.set_cons_zero, List.set_cons_succ, i64_w, i32_w]
       rfl
      refine pure_ (i := 11) (N := some 65) (v := undef) (a' := ?_) #[true,true,true,true,true,true,true,true,true,true,true,true,false,false] rfl rfl (any_of HT_.out (by kernel_rfl)) (fun _ _ _ h => h) (Or.inr ⟨by rfl, rfl⟩) ?_ ?_
      rotate_left
      ·simp only [Act.put, List.setIfInBounds_toArray, List.set_cons_zero, List.set_cons_succ, i64_w, i32_w]
       rfl
      refine pure_ (i := 12) (N := some 66) (v := ?_) (a' := ?_) #[true,true,true,true,true,true,true,true,true,true,true,true,true,false] rfl rfl (any_of HT_.out (by kernel_rfl)) (fun _ _ _ h => h) (Or.inl ⟨by rfl, ?_⟩) ?_ ?_
      rotate_left
      ·intro w'
       go_simp
       with_reducible rfl
      rotate_left
      ·simp only [Act.put, List.setIfInBounds_toArray, List.set_cons_zero, List.set_cons_succ, i64_w, i32_w]
       rfl
      refine pure_ (i := 13) (N := some 8) (v := ?_) (a' := ?_) #[true,true,true,true,true,true,true,true,true,true,true,true,true,true] rfl rfl (any_of HT_.out (by kernel_rfl)) (fun _ _ _ h => h) (Or.inl ⟨by rfl, ?_⟩) ?_ ?_
      rotate_left
      ·intro w'
       go_simp
       with_reducible rfl
      rotate_left
      ·simp only [Act.put, List.setIfInBounds_toArray, List.set_cons_zero, List.set_cons_succ, i64_w, i32_w]
       rfl
      refine done_ (done_of HT_.out (by kernel_rfl)) ?_
      try go_wp2
      go_ret
      exact ⟨by first | rfl | (simp [errW_none, errW_some] <;> rfl) | (simp [*, errW_none, errW_some] <;> rfl), by exact bB⟩




end Go.Proofs.YthbjajppdomhhaaDoor.QIsEternalFamily
