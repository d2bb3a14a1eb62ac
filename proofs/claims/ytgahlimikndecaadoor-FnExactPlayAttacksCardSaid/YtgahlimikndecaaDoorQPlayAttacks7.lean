import Derived.Test.YtgahlimikndecaaDoorQPlayAttacks0
import Derived.Test.YtgahlimikndecaaDoorQPlayAttacks1
import Derived.Test.YtgahlimikndecaaDoorQPlayAttacks5
import Derived.Test.YtgahlimikndecaaDoorQPlayAttacks6
namespace Go.Proofs.YtgahlimikndecaaDoor.QPlayAttacks
open Go.RowKit Go.Proofs.YtgahlimikndecaaDoorW.PrintWords Go.Proofs.YtgahlimikndecaaDoorW.PrintLast Go.Proofs.YtgahlimikndecaaDoorW.PrintMore
attribute [local go_sem] max2_int min2_int max_two min_two max_three min_three max_four min_four
set_option linter.unusedVariables false
set_option linter.unusedSimpArgs false
set_option maxRecDepth 100000
set_option maxHeartbeats 8000000
/-! ### spec_PlayAttacks: function 24 -/
mutual
def spec_PlayAttacks.j0 : Nat → List Int → List Int → Bool → List (List Int) → Bool → Int → List (S78) → Option ((List (List Int)) × Bool)
 | 0, _, _, _, _, _, _, _ => none
 | k + 1, x1, x2, x3, x10, x30, x333000, x333001 => if x30 = true then (some (x10, false)) else ((spec_l10Sets.f k x333000 x333001 (x1.length : Int)).bind fun t338 => ((spec_l10Table.f k x333000 x333001 t338 x3).bind fun t341 => ((spec_l10Resist.f k t338 t341).bind fun t344 => ((spec_l4At.f k t338 x1).bind fun t347 => (spec_PlayAttacks.l0 k x2 x10 t338 t341 t344 t347 0 x333000 x333001)))))
def spec_PlayAttacks.l0 : Nat → List Int → List (List Int) → List (List Int) → List (List (List Int)) → List Int → Int → Int → Int → List (S78) → Option ((List (List Int)) × Bool)
 | 0, _, _, _, _, _, _, _, _, _ => none
 | k + 1, x2, x10, x11, x12, x13, x14, x15, x333000, x333001 => if x15 < (x2.length : Int) then (if 0 ≤ x15 then ((spec_l2Node.f x333000 x333001 (rd x2 x15)).bind fun t349 => (if t349 = true then (if 0 ≤ x14 then (if x14 < (x11.length : Int) then ((spec_l1Has.f k (rd_L2 x11 x14) (rd x2 x15)).bind fun t352 => (if t352 = true then (if x14 < 0 then (some (x10, true)) else ((spec_l1Own.f (rd_L2 x11 x14)).bind fun t354 => (if x10.length < 5864062014805 then (spec_PlayAttacks.l0 k x2 (x10 ++ [t354]) x11 x12 x13 x14 (wrap64 (x15 + 1)) x333000 x333001) else (none)))) else ((spec_l10Best.f k x12 x13 x14 (rd x2 x15)).bind fun t361 => (if t361 < 0 then (some (x10, true)) else (if 0 ≤ t361 then (if t361 < (x11.length : Int) then ((spec_l1Own.f (rd_L2 x11 t361)).bind fun t363 => (if x10.length < 5864062014805 then (spec_PlayAttacks.l0 k x2 (x10 ++ [t363]) x11 x12 x13 t361 (wrap64 (x15 + 1)) x333000 x333001) else (none))) else (none)) else (none)))))) else (none)) else (none)) else (some (x10, true)))) else (none)) else (some (x10, true))
end
def spec_PlayAttacks.f (k : Nat) (a0_0 : Int) (l0_1 : List (S78)) (l1 : List Int) (l2 : List Int) (a3 : Bool) : Option ((List (List Int)) × Bool) := (some (([] : List (List Int)) : List (List Int))).bind fun y333 => ((spec_l2Good.f a0_0 l0_1).bind fun t336 => (if t336 = true then ((spec_l2Set.f k a0_0 l0_1 l1).bind fun t337 => (if t337 = true then (spec_PlayAttacks.j0 k l1 l2 a3 y333 (decide ((l2.length : Int) > 30)) a0_0 l0_1) else (spec_PlayAttacks.j0 k l1 l2 a3 y333 true a0_0 l0_1))) else (spec_PlayAttacks.j0 k l1 l2 a3 y333 true a0_0 l0_1)))
theorem spec_PlayAttacks.mono_l : ∀ k, (∀ y0 y1 y2 y3 y4 y5 y6, LeO (spec_PlayAttacks.j0 k y0 y1 y2 y3 y4 y5 y6) (spec_PlayAttacks.j0 (k + 1) y0 y1 y2 y3 y4 y5 y6)) ∧ (∀ y0 y1 y2 y3 y4 y5 y6 y7 y8, LeO (spec_PlayAttacks.l0 k y0 y1 y2 y3 y4 y5 y6 y7 y8) (spec_PlayAttacks.l0 (k + 1) y0 y1 y2 y3 y4 y5 y6 y7 y8))
 | 0 => ⟨fun _ _ _ _ _ _ _ r h => by simp [spec_PlayAttacks.j0] at h, fun _ _ _ _ _ _ _ _ _ r h => by simp [spec_PlayAttacks.l0] at h⟩
 | k + 1 => by
  obtain ⟨ih0, ih1⟩ := spec_PlayAttacks.mono_l k
  refine ⟨?_, ?_⟩
  ·intro y0 y1 y2 y3 y4 y5 y6
   unfold spec_PlayAttacks.j0
   have q0 := spec_l10Best.mono
   have q1 := spec_l10Resist.mono
   have q2 := spec_l10Sets.mono
   have q3 := spec_l10Table.mono
   have q4 := spec_l1Has.mono
   have q5 := spec_l2Set.mono
   have q6 := spec_l4At.mono
   exact lM
  ·intro y0 y1 y2 y3 y4 y5 y6 y7 y8
   unfold spec_PlayAttacks.l0
   have q0 := spec_l10Best.mono
   have q1 := spec_l10Resist.mono
   have q2 := spec_l10Sets.mono
   have q3 := spec_l10Table.mono
   have q4 := spec_l1Has.mono
   have q5 := spec_l2Set.mono
   have q6 := spec_l4At.mono
   exact lM
theorem spec_PlayAttacks.mono : ∀ a0 a1 a2 a3 a4 k, LeO (spec_PlayAttacks.f k a0 a1 a2 a3 a4) (spec_PlayAttacks.f (k + 1) a0 a1 a2 a3 a4) := by
 intro a0 a1 a2 a3 a4 k
 obtain ⟨ih0, ih1⟩ := spec_PlayAttacks.mono_l k
 unfold spec_PlayAttacks.f
 have q0 := spec_l10Best.mono
 have q1 := spec_l10Resist.mono
 have q2 := spec_l10Sets.mono
 have q3 := spec_l10Table.mono
 have q4 := spec_l1Has.mono
 have q5 := spec_l2Set.mono
 have q6 := spec_l4At.mono
 exact lM
def spec_PlayAttacks.T12 : Bool × List (List Nat × List Nat) := (true, [([], []), ([], []), ([0, 1], [0, 1]), ([2], [2]), ([], []), ([], []), ([4, 5], [4, 5]), ([6], [6]), ([3, 7], [3, 7]), ([8], [8])])
def spec_PlayAttacks.B12 : List Nat := [0, 0, 3, 7, 0, 0, 48, 112, 255, 511]
theorem spec_PlayAttacks.tab12 : rtab .any (opsOf Tryd.f24 12) = spec_PlayAttacks.T12 := by kernel_rfl
theorem spec_PlayAttacks.bits12 : waitsOk spec_PlayAttacks.T12.2 spec_PlayAttacks.B12 = true := by kernel_rfl
theorem spec_PlayAttacks.calls (k : Nat) (a0_0 : Int) (A0_1 : Option Addr) (c0_1 : Nat) (l0_1 : List (S78)) (A1 : Option Addr) (c1 : Nat) (l1 : List Int) (A2 : Option Addr) (c2 : Nat) (l2 : List Int) (a3 : Bool) (r1 : List (List Int)) (r2 : Bool) (w : World) (hr0_1 : Kd.C k78 w A0_1 l0_1.length l0_1) (hc0_1 : l0_1.length ≤ c0_1) (hr1 : Kd.C (Kd.int .i64) w A1 l1.length l1) (hc1 : l1.length ≤ c1) (hr2 : Kd.C (Kd.int .i64) w A2 l2.length l2) (hc2 : l2.length ≤ c2) (h : spec_PlayAttacks.f k a0_0 l0_1 l1 l2 a3 = some (r1, r2)) :
  Calls Tryd.prog 24 #[.agg #[.int .i64 a0_0, .slice A0_1 l0_1.length c0_1], .slice A1 l1.length c1, .slice A2 l2.length c2, .bool a3] w fun e w' => ∃ v0_ : Value, e = .returned (.tuple #[v0_, .bool r2]) ∧ Kd.N (Kd.slice 3 (Kd.int .i64)) 36 w' w.heap.size (fun k_ => (w.heap.size ≤ k_)) v0_ r1 ∧ Below w.heap.size w w' := by
 have hu29 := Tryd.underlying29
 have HR0_1 := Aside0.mk hr0_1
 have HC0_1 := Aside0.mk hc0_1
 clear hr0_1 hc0_1
 have HR1 := Aside0.mk hr1
 have HC1 := Aside0.mk hc1
 clear hr1 hc1
 have HR2 := Aside0.mk hr2
 have HC2 := Aside0.mk hc2
 clear hr2 hc2
 have HB := aM (Below.refl w.heap.size w)
 have H : ((some (([] : List (List Int)) : List (List Int))).bind fun y333 => ((spec_l2Good.f a0_0 l0_1).bind fun t336 => (if t336 = true then ((spec_l2Set.f k a0_0 l0_1 l1).bind fun t337 => (if t337 = true then (spec_PlayAttacks.j0 k l1 l2 a3 y333 (decide ((l2.length : Int) > 30)) a0_0 l0_1) else (spec_PlayAttacks.j0 k l1 l2 a3 y333 true a0_0 l0_1))) else (spec_PlayAttacks.j0 k l1 l2 a3 y333 true a0_0 l0_1)))) = some (r1, r2) := h
 clear h
 obtain ⟨y333, hy333⟩ : ∃ y_ : List (List Int), y_ = (([] : List (List Int))) := ⟨_, rfl⟩
 replace H : ((spec_l2Good.f a0_0 l0_1).bind fun t336 => (if t336 = true then ((spec_l2Set.f k a0_0 l0_1 l1).bind fun t337 => (if t337 = true then (spec_PlayAttacks.j0 k l1 l2 a3 y333 (decide ((l2.length : Int) > 30)) a0_0 l0_1) else (spec_PlayAttacks.j0 k l1 l2 a3 y333 true a0_0 l0_1))) else (spec_PlayAttacks.j0 k l1 l2 a3 y333 true a0_0 l0_1))) = some (r1, r2) := by first | (rw [hy333];with_reducible exact H) | (rw [hy333];with_reducible exact hB H) | with_reducible exact hB H | with_reducible exact H | (rw [hy333];exact H) | exact H
 have Ny333 := Aside0.mk hy333
 clear hy333
 have HC5 := Aside0.mk H
 clear H
 go_enter Tryd.func24, Tryd.ntmps24
 go_upto_region 2 with (first | ((with_reducible refine gate_dst (N := 4) rfl ?_);(try (refine gate_guard (by rfl) ?_;dsimp only));refine box_event ?hg (N := 4) ?hd (cs := #[.int .i64 a0_0, .slice A0_1 l0_1.length c0_1]) (t := 29) ?hr ?_;(case hd => rfl);(case hg => rfl);(case hr => exact gS);intro gb332 hg w6 hbox hb;have n0_ := aM (below_step (by exact bB) hb);have n1_ := aM (hbox);have n2_ := aM (sW hg : w.heap.size ≤ gb332);have n3_ := aM (sW hg : w.heap.size ≤ gb332);clear HB;have HB := n0_;have BK332 := n1_;have GW332 := n2_;have GE332 := n3_;clear n0_ n1_ n2_ n3_ hb hbox hg) | ((with_reducible refine gate_dst (N := 16) rfl ?_);(try (refine gate_guard (by rfl) ?_;dsimp only));refine Kd.N_lit (Kd.slice 3 (Kd.int .i64)) _ 36 ?hg (N' := 16) ?hd (xs := ([] : List (List Int))) (inner := []) (ok := (fun k_ => (w.heap.size ≤ k_) ∧ k_ ≠ gb332)) (okp := (fun k_ => (w.heap.size ≤ k_) ∧ k_ ≠ gb332)) ?hr ?hp (fun _ hk => hk) ((show ∀ k_, w6.heap.size ≤ k_ → (fun k_ => (w.heap.size ≤ k_) ∧ k_ ≠ gb332) k_ from fun k_ hk => ⟨(Nat.le_trans (below_size (by exact bB)) hk), Kd.freshB (g := gb332) (o := .cells #[.int .i64 a0_0, .slice A0_1 l0_1.length c0_1] 29 (0, 0)) (by exact kP BK332.out) k_ hk⟩) _ (Nat.le_refl _)) (Below.refl _ _) (Nat.le_refl _) (by simp) ?_;(case hd => rfl);(case hg => rfl);(case hr => exact gS);(case hp => exact (Reps.none _ _));intro v334 w7 ho8 hb hg_ hnew_;clear hg_ hnew_;(first | rw [← Ny333.out] at ho8 | (simp only [Int.reduceToNat] at ho8;rw [← Ny333.out] at ho8));have n0_ := aM (Kd.N_lower ho8 (below_size (by exact bB)));have n1_ := aM (kB hb BK332.out);have n2_ := aM (below_step (by exact bB) hb);clear BK332 HB;have HO335 := n0_;have BK332 := n1_;have HB := n2_;clear n0_ n1_ n2_ hb ho8))
 (try simp only [Act.put, List.setIfInBounds_toArray, List.set_cons_zero, List.set_cons_succ])
 go_cut [30] (fun v30 wc => ∃ (kq : Nat) (x30_4 : Bool), v30 = .bool x30_4 ∧ Aside0 (spec_PlayAttacks.j0 kq l1 l2 a3 y333 x30_4 a0_0 l0_1 = some (r1, r2)) ∧ Aside0 (kq ≤ k) ∧ Aside0 (Kd.N (Kd.slice 3 (Kd.int .i64)) 36 wc w.heap.size (fun k_ => (w.heap.size ≤ k_) ∧ k_ ≠ gb332) v334 y333) ∧ Aside0 (wc.heap[gb332]? = some (.cells #[.int .i64 a0_0, (.slice A0_1 l0_1.length c0_1)] 29 (0, 0))) ∧ Aside0 (Below w.heap.size w wc))
 case first =>
  have H := HC5.out
  clear HC5
  replace H := bE H
  obtain ⟨t336, A90, H⟩ := H
  try dsimp only at H
  have A9 := Aside0.mk A90
  clear A90
  by_cases c10 : t336 = true
  rotate_left
  ·replace c10 := Bool.eq_false_iff.mpr c10
   subst c10
   rw [if_neg fF] at H
   have H' := Aside0.mk H
   clear H
   have hcz21_0 := bC0 BK332.out
   have hcz21_1 := bC1 BK332.out
   have hfz21_0 := blk_frozen BK332.out 0
   have hfz21_1 := blk_frozen BK332.out 1
   go_wp2_with (first | ((with_reducible refine gate_callee (f := 37) rfl ?_);refine goesL_ (some 18) rfl rfl Tryd.func37 kR rfl #[.agg #[.int .i64 a0_0, .slice A0_1 l0_1.length c0_1]] rfl mM ?_;(with_reducible refine (spec_l2Good.calls a0_0 _ _ l0_1 false _ ?side1 ?side2 A9.out).mono ?_);(case side1 => exact cP (Kd.C_below HR0_1.out HB.out));(case side2 => exact HC0_1.out);rintro e w22 ⟨rfl, hb⟩;refine ⟨_, rfl, ?_⟩;have n0_ := aM (Kd.N_below (by exact uP HO335.out) hb);have n1_ := aM (kB hb BK332.out);have n2_ := aM (below_step (by exact bB) hb);clear HO335 BK332 HB;have HO335 := n0_;have BK332 := n1_;have HB := n2_;clear n0_ n1_ n2_;(try clear hb)))
   go_meet
   case rel => exact ⟨_, (true), eF, H', ⟨by first | omega | exact Nat.le_refl _⟩, ⟨by (with_reducible repeat (first | apply Kd.N_alloc | apply Kd.N_drewN | apply Kd.N_drew));exact HO335.out⟩, ⟨by exact kP BK332.out⟩, ⟨by exact bB⟩⟩
  subst c10
  rw [if_pos rfl] at H
  replace H := bE H
  obtain ⟨t337, A110, H⟩ := H
  try dsimp only at H
  have A11 := Aside0.mk A110
  clear A110
  by_cases c12 : t337 = true
  ·subst c12
   rw [if_pos rfl] at H
   have H' := Aside0.mk H
   clear H
   have hcz13_0 := bC0 BK332.out
   have hcz13_1 := bC1 BK332.out
   have hfz13_0 := blk_frozen BK332.out 0
   have hfz13_1 := blk_frozen BK332.out 1
   go_wp2_with (first | ((with_reducible refine gate_callee (f := 37) rfl ?_);refine goesL_ (some 18) rfl rfl Tryd.func37 kR rfl #[.agg #[.int .i64 a0_0, .slice A0_1 l0_1.length c0_1]] rfl mM ?_;(with_reducible refine (spec_l2Good.calls a0_0 _ _ l0_1 true _ ?side1 ?side2 A9.out).mono ?_);(case side1 => exact cP (Kd.C_below HR0_1.out HB.out));(case side2 => exact HC0_1.out);rintro e w14 ⟨rfl, hb⟩;refine ⟨_, rfl, ?_⟩;have n0_ := aM (Kd.N_below (by exact uP HO335.out) hb);have n1_ := aM (kB hb BK332.out);have n2_ := aM (below_step (by exact bB) hb);clear HO335 BK332 HB;have HO335 := n0_;have BK332 := n1_;have HB := n2_;clear n0_ n1_ n2_;(try clear hb);have hcz15_0 := bC0 BK332.out;have hcz15_1 := bC1 BK332.out;have hfz15_0 := blk_frozen BK332.out 0;have hfz15_1 := blk_frozen BK332.out 1) | (go_at_call 38;(with_reducible refine (spec_l2Set.calls k a0_0 _ _ l0_1 _ _ l1 true _ ?side1 ?side2 ?side3 ?side4 A11.out).mono ?_);(case side1 => exact cP (Kd.C_below HR0_1.out HB.out));(case side2 => exact HC0_1.out);(case side3 => exact cP (Kd.C_below HR1.out HB.out));(case side4 => exact HC1.out);rintro e w16 ⟨rfl, hb⟩;have n0_ := aM (Kd.N_below (by exact uP HO335.out) hb);have n1_ := aM (kB hb BK332.out);have n2_ := aM (below_step (by exact bB) hb);clear HO335 BK332 HB;have HO335 := n0_;have BK332 := n1_;have HB := n2_;clear n0_ n1_ n2_;(try clear hb)))
   go_meet
   case rel => exact ⟨_, (decide ((l2.length : Int) > 30)), eF, H', ⟨by first | omega | exact Nat.le_refl _⟩, ⟨by (with_reducible repeat (first | apply Kd.N_alloc | apply Kd.N_drewN | apply Kd.N_drew));exact HO335.out⟩, ⟨by exact kP BK332.out⟩, ⟨by exact bB⟩⟩
  replace c12 := Bool.eq_false_iff.mpr c12
  subst c12
  rw [if_neg fF] at H
  have H' := Aside0.mk H
  clear H
  have hcz17_0 := bC0 BK332.out
  have hcz17_1 := bC1 BK332.out
  have hfz17_0 := blk_frozen BK332.out 0
  have hfz17_1 := blk_frozen BK332.out 1
  go_wp2_with (first | ((with_reducible refine gate_callee (f := 37) rfl ?_);refine goesL_ (some 18) rfl rfl Tryd.func37 kR rfl #[.agg #[.int .i64 a0_0, .slice A0_1 l0_1.length c0_1]] rfl mM ?_;(with_reducible refine (spec_l2Good.calls a0_0 _ _ l0_1 true _ ?side1 ?side2 A9.out).mono ?_);(case side1 => exact cP (Kd.C_below HR0_1.out HB.out));(case side2 => exact HC0_1.out);rintro e w18 ⟨rfl, hb⟩;refine ⟨_, rfl, ?_⟩;have n0_ := aM (Kd.N_below (by exact uP HO335.out) hb);have n1_ := aM (kB hb BK332.out);have n2_ := aM (below_step (by exact bB) hb);clear HO335 BK332 HB;have HO335 := n0_;have BK332 := n1_;have HB := n2_;clear n0_ n1_ n2_;(try clear hb);have hcz19_0 := bC0 BK332.out;have hcz19_1 := bC1 BK332.out;have hfz19_0 := blk_frozen BK332.out 0;have hfz19_1 := blk_frozen BK332.out 1) | (go_at_call 38;(with_reducible refine (spec_l2Set.calls k a0_0 _ _ l0_1 _ _ l1 false _ ?side1 ?side2 ?side3 ?side4 A11.out).mono ?_);(case side1 => exact cP (Kd.C_below HR0_1.out HB.out));(case side2 => exact HC0_1.out);(case side3 => exact cP (Kd.C_below HR1.out HB.out));(case side4 => exact HC1.out);rintro e w20 ⟨rfl, hb⟩;have n0_ := aM (Kd.N_below (by exact uP HO335.out) hb);have n1_ := aM (kB hb BK332.out);have n2_ := aM (below_step (by exact bB) hb);clear HO335 BK332 HB;have HO335 := n0_;have BK332 := n1_;have HB := n2_;clear n0_ n1_ n2_;(try clear hb)))
  go_meet
  case rel => exact ⟨_, (true), eF, H', ⟨by first | omega | exact Nat.le_refl _⟩, ⟨by (with_reducible repeat (first | apply Kd.N_alloc | apply Kd.N_drewN | apply Kd.N_drew));exact HO335.out⟩, ⟨by exact kP BK332.out⟩, ⟨by exact bB⟩⟩
 case rest =>
  clear HC5
  try clear c1
  try clear c2
  try clear p2
  try clear c3
  try clear c10
  try clear c12
  try clear hcz13_0
  try clear hcz13_1
  try clear hcz15_0
  try clear hcz15_1
  try clear hcz17_0
  try clear hcz17_1
  try clear hcz19_0
  try clear hcz19_1
  try clear hcz21_0
  try clear hcz21_1
  try clear hfz13_0
  try clear hfz13_1
  try clear hfz15_0
  try clear hfz15_1
  try clear hfz17_0
  try clear hfz17_1
  try clear hfz19_0
  try clear hfz19_1
  try clear hfz21_0
  try clear hfz21_1
  obtain ⟨kq, x30_4, rfl, HA, HJ4, HO_10, BK332, HB⟩ := hcut
  cases kq with
  | zero => exact absurd HA.out (by simp [spec_PlayAttacks.j0])
  | succ kj4 =>
   have H := HA.out
   clear HA
   simp only [spec_PlayAttacks.j0] at H
   by_cases c23 : x30_4 = true
   ·subst c23
    rw [if_pos rfl] at H
    simp only [Option.some.injEq, Prod.mk.injEq] at H
    obtain ⟨rfl, rfl⟩ := H
    go_wp2
    go_ret2
    exact ⟨_, eW, by (with_reducible repeat (first | apply Kd.N_alloc | apply Kd.N_drewN | apply Kd.N_drew));exact Kd.N_mono HO_10.out (fun _ hk => hk.1), by exact bB⟩
   replace c23 := Bool.eq_false_iff.mpr c23
   subst c23
   rw [if_neg fF] at H
   replace H := bE H
   obtain ⟨t338, A240, H⟩ := H
   try dsimp only at H
   have A24 := Aside0.mk A240
   clear A240
   replace H := bE H
   obtain ⟨t341, A250, H⟩ := H
   try dsimp only at H
   have A25 := Aside0.mk A250
   clear A250
   replace H := bE H
   obtain ⟨t344, A260, H⟩ := H
   try dsimp only at H
   have A26 := Aside0.mk A260
   clear A260
   replace H := bE H
   obtain ⟨t347, A270, H⟩ := H
   try dsimp only at H
   have A27 := Aside0.mk A270
   clear A270
   have H' := Aside0.mk H
   clear H
   have hcz28_0 := bC0 BK332.out
   have hcz28_1 := bC1 BK332.out
   have hfz28_0 := blk_frozen BK332.out 0
   have hfz28_1 := blk_frozen BK332.out 1
   go_wp2_with (first | ((with_reducible refine gate_callee (f := 39) rfl ?_);refine goesL_ (some 35) rfl rfl Tryd.func39 kR rfl #[.agg #[.int .i64 a0_0, .slice A0_1 l0_1.length c0_1], .int .i64 (l1.length : Int)] rfl mM ?_;(with_reducible refine (spec_l10Sets.calls kj4 a0_0 _ _ l0_1 (l1.length : Int) t338 _ ?side1 ?side2 A24.out).mono ?_);(case side1 => exact cP (Kd.C_below HR0_1.out HB.out));(case side2 => exact HC0_1.out);rintro e w29 ⟨v339, rfl, ho0, hb⟩;refine ⟨_, rfl, ?_⟩;have n0_ := aM (Kd.N_elder' (by exact uP HO_10.out) (Kd.N_base ho0) hb);have n1_ := aM (Kd.N_lower (Kd.N_mono (ok' := fun k_ => (w.heap.size ≤ k_) ∧ some k_ ≠ (v334 : Value).ownBlock ∧ k_ ≠ gb332) ho0 (fun k_ hk_ => ⟨(Nat.le_trans (below_size (by exact bB)) hk_), (Kd.fresh' (Kd.N_lt (by exact uP HO_10.out)) k_ hk_), (Kd.freshB (g := gb332) (o := .cells #[.int .i64 a0_0, .slice A0_1 l0_1.length c0_1] 29 (0, 0)) (by exact kP BK332.out) k_ hk_)⟩)) (below_size (by exact bB)));have n2_ := aM (kB hb BK332.out);have n3_ := aM (below_step (by exact bB) hb);clear HO_10 BK332 HB;have HO_10 := n0_;have HO340 := n1_;have BK332 := n2_;have HB := n3_;clear n0_ n1_ n2_ n3_;(try clear hb);(try clear ho0);have hcz30_0 := bC0 BK332.out;have hcz30_1 := bC1 BK332.out;have hfz30_0 := blk_frozen BK332.out 0;have hfz30_1 := blk_frozen BK332.out 1;obtain ⟨Ao31, co31, eo31⟩ := Kd.N_slice HO340.out;subst eo31) | ((with_reducible refine gate_callee (f := 40) rfl ?_);refine goesL_ (some 39) rfl rfl Tryd.func40 kR rfl #[.agg #[.int .i64 a0_0, .slice A0_1 l0_1.length c0_1], .slice Ao31 t338.length co31, .bool a3] rfl mM ?_;(with_reducible refine (spec_l10Table.calls kj4 a0_0 _ _ l0_1 _ _ t338 a3 t341 _ ?side1 ?side2 ?side3 ?side4 A25.out).mono ?_);(case side1 => exact cP (Kd.C_below HR0_1.out HB.out));(case side2 => exact HC0_1.out);(case side3 => exact cP (Kd.N_reads' HO340.out).2.2);(case side4 => exact (Kd.N_reads' HO340.out).2.1);rintro e w32 ⟨v342, rfl, ho0, hb⟩;refine ⟨_, rfl, ?_⟩;have n0_ := aM (Kd.N_elder' (by exact uP HO_10.out) (Kd.R_base ho0) hb);have n1_ := aM (Kd.N_elder' (by exact uP HO340.out) (Kd.R_base ho0) hb);have n2_ := aM (Kd.N_lower (Kd.N_mono (ok' := fun k_ => (w.heap.size ≤ k_) ∧ some k_ ≠ (v334 : Value).ownBlock ∧ some k_ ≠ (.slice Ao31 t338.length co31 : Value).ownBlock ∧ k_ ≠ gb332) (Kd.R_N (Kd.R_bound ho0)) (fun k_ hk_ => ⟨(Nat.le_trans (below_size (by exact bB)) hk_.2.1), (Kd.fresh' (Kd.N_lt (by exact uP HO_10.out)) k_ hk_.2.1), (Kd.fresh' (Kd.N_lt (by exact uP HO340.out)) k_ hk_.2.1), (Kd.freshB (g := gb332) (o := .cells #[.int .i64 a0_0, .slice A0_1 l0_1.length c0_1] 29 (0, 0)) (by exact kP BK332.out) k_ hk_.2.1)⟩)) (below_size (by exact bB)));have n3_ := aM (kB hb BK332.out);have n4_ := aM (below_step (by exact bB) hb);clear HO_10 HO340 BK332 HB;have HO_10 := n0_;have HO340 := n1_;have HO343 := n2_;have BK332 := n3_;have HB := n4_;clear n0_ n1_ n2_ n3_ n4_;(try clear hb);(try clear ho0);obtain ⟨Ao33, co33, eo33⟩ := Kd.N_slice HO343.out;subst eo33) | ((with_reducible refine gate_callee (f := 41) rfl ?_);refine goesL_ (some 42) rfl rfl Tryd.func41 kR rfl #[.slice Ao31 t338.length co31, .slice Ao33 t341.length co33] rfl mM ?_;(with_reducible refine (spec_l10Resist.calls kj4 _ _ t338 _ _ t341 t344 _ ?side1 ?side2 ?side3 ?side4 A26.out).mono ?_);(case side1 => exact cP (Kd.N_reads' HO340.out).2.2);(case side2 => exact (Kd.N_reads' HO340.out).2.1);(case side3 => exact cP (Kd.N_reads' HO343.out).2.2);(case side4 => exact (Kd.N_reads' HO343.out).2.1);rintro e w34 ⟨v345, rfl, ho0, hb⟩;refine ⟨_, rfl, ?_⟩;have n0_ := aM (Kd.N_elder' (by exact uP HO_10.out) (Kd.R_base ho0) hb);have n1_ := aM (Kd.N_elder' (by exact uP HO340.out) (Kd.R_base ho0) hb);have n2_ := aM (Kd.N_elder' (by exact uP HO343.out) (Kd.R_base ho0) hb);have n3_ := aM (Kd.R_lower (Kd.R_newM (M := fun k_ => (w.heap.size ≤ k_)) ho0 (below_size (by exact bB)) (fun k_ h_ => h_)) (below_size (by exact bB)));have n4_ := aM (kB hb BK332.out);have n5_ := aM (below_step (by exact bB) hb);clear HO_10 HO340 HO343 BK332 HB;have HO_10 := n0_;have HO340 := n1_;have HO343 := n2_;have HO346 := n3_;have BK332 := n4_;have HB := n5_;clear n0_ n1_ n2_ n3_ n4_ n5_;(try clear hb);(try clear ho0)) | ((with_reducible refine gate_callee (f := 42) rfl ?_);refine goesL_ (some 45) rfl rfl Tryd.func42 kR rfl #[.slice Ao31 t338.length co31, .slice A1 l1.length c1] rfl mM ?_;(with_reducible refine (spec_l4At.calls kj4 _ _ t338 _ _ l1 t347 _ ?side1 ?side2 ?side3 ?side4 A27.out).mono ?_);(case side1 => exact cP (Kd.N_reads' HO340.out).2.2);(case side2 => exact (Kd.N_reads' HO340.out).2.1);(case side3 => exact cP (Kd.C_below HR1.out HB.out));(case side4 => exact HC1.out);rintro e w' ⟨rfl, ⟨nd, rfl⟩⟩;refine ⟨_, rfl, ?_⟩))
   go_loopg [10, 14, 15] kj4 (fun kq v10 v14 v15 w' => ∃ (x10_2 : List (List Int)) (x14_2 : Int) (x15_2 : Int), v14 = .int .i64 x14_2 ∧ v15 = .int .i64 x15_2 ∧ Aside0 (spec_PlayAttacks.l0 kq l2 x10_2 t338 t341 t344 x14_2 x15_2 a0_0 l0_1 = some (r1, r2)) ∧ Aside0 (kq ≤ kj4) ∧ Aside0 (Kd.N (Kd.slice 3 (Kd.int .i64)) 36 w' w.heap.size (fun k_ => (w.heap.size ≤ k_) ∧ some k_ ≠ ((.slice Ao31 t338.length co31) : Value).ownBlock ∧ some k_ ≠ ((.slice Ao33 t341.length co33) : Value).ownBlock ∧ some k_ ≠ (v345 : Value).ownBlock ∧ k_ ≠ gb332) v10 x10_2) ∧ Aside0 (Kd.N (Kd.slice 3 (Kd.int .i64)) 36 w' w.heap.size (fun k_ => (w.heap.size ≤ k_) ∧ some k_ ≠ (v10 : Value).ownBlock ∧ some k_ ≠ ((.slice Ao33 t341.length co33) : Value).ownBlock ∧ some k_ ≠ (v345 : Value).ownBlock ∧ k_ ≠ gb332) (.slice Ao31 t338.length co31) t338) ∧ Aside0 (Kd.N (Kd.slice 36 (Kd.slice 3 (Kd.int .i64))) 26 w' w.heap.size (fun k_ => (w.heap.size ≤ k_) ∧ some k_ ≠ (v10 : Value).ownBlock ∧ some k_ ≠ ((.slice Ao31 t338.length co31) : Value).ownBlock ∧ some k_ ≠ (v345 : Value).ownBlock ∧ k_ ≠ gb332) (.slice Ao33 t341.length co33) t341) ∧ Aside0 (Kd.R (Kd.int .i64) 3 w' w.heap.size (fun k_ => (w.heap.size ≤ k_)) v345 t344) ∧ Aside0 (w'.heap[gb332]? = some (.cells #[.int .i64 a0_0, (.slice A0_1 l0_1.length c0_1)] 29 (0, 0))) ∧ Aside0 (Below w.heap.size w w'))
   case atStart => exact ⟨(y333), (t347), (0), eF, eF, H', ⟨Nat.le_refl _⟩, ⟨by (with_reducible repeat (first | apply Kd.N_alloc | apply Kd.N_drewN | apply Kd.N_drew));exact Kd.N_mono HO_10.out (fun _ hk => ⟨hk.1.1.1.1, ⟨hk.1.1.2, ⟨hk.1.2, ⟨hk.2, hk.1.1.1.2⟩⟩⟩⟩)⟩, ⟨by (with_reducible repeat (first | apply Kd.N_alloc | apply Kd.N_drewN | apply Kd.N_drew));exact Kd.N_mono HO340.out (fun _ hk => ⟨hk.1.1.1, ⟨hk.1.1.2.1, ⟨hk.1.2, ⟨hk.2, hk.1.1.2.2⟩⟩⟩⟩)⟩, ⟨by (with_reducible repeat (first | apply Kd.N_alloc | apply Kd.N_drewN | apply Kd.N_drew));exact Kd.N_mono HO343.out (fun _ hk => ⟨hk.1.1, ⟨hk.1.2.1, ⟨hk.1.2.2.1, ⟨hk.2, hk.1.2.2.2⟩⟩⟩⟩)⟩, ⟨by refine rP ?_;exact Kd.R_mono HO346.out (fun _ hk => hk.1)⟩, ⟨by exact kP BK332.out⟩, ⟨by exact bB⟩⟩
   case round =>
    clear H'
    try clear c1
    try clear c2
    try clear p2
    try clear c3
    try clear c4
    try clear c10
    try clear c12
    try clear c23
    try clear c24
    try clear hcz13_0
    try clear hcz13_1
    try clear hcz15_0
    try clear hcz15_1
    try clear hcz17_0
    try clear hcz17_1
    try clear hcz19_0
    try clear hcz19_1
    try clear hcz21_0
    try clear hcz21_1
    try clear hcz28_0
    try clear hcz28_1
    try clear hcz30_0
    try clear hcz30_1
    try clear hfz13_0
    try clear hfz13_1
    try clear hfz15_0
    try clear hfz15_1
    try clear hfz17_0
    try clear hfz17_1
    try clear hfz19_0
    try clear hfz19_1
    try clear hfz21_0
    try clear hfz21_1
    try clear hfz28_0
    try clear hfz28_1
    try clear hfz30_0
    try clear hfz30_1
    try clear p2
    obtain ⟨x10_2, x14_2, x15_2, rfl, rfl, HA, HK2, HO_10, HO_11, HO_12, HO_13, BK332, HB⟩ := hrel
    cases gk with
    | zero => exact absurd HA.out (by simp [spec_PlayAttacks.l0])
    | succ k2 =>
     have H := HA.out
     clear HA
     simp only [spec_PlayAttacks.l0] at H
     by_cases c35 : x15_2 < (l2.length : Int)
     rotate_left
     ·rw [if_neg c35] at H
      have c35b0 : decide (x15_2 < (l2.length : Int)) = false := decide_eq_false c35
      clear c35
      simp only [Option.some.injEq, Prod.mk.injEq] at H
      obtain ⟨rfl, rfl⟩ := H
      go_wp2
      go_ret2
      exact ⟨_, eW, by (with_reducible repeat (first | apply Kd.N_alloc | apply Kd.N_drewN | apply Kd.N_drew));exact Kd.N_mono HO_10.out (fun _ hk => hk.1), by exact bB⟩
     rw [if_pos c35] at H
     have c35b0 : decide (x15_2 < (l2.length : Int)) = true := decide_eq_true c35
     clear c35
     by_cases c36 : 0 ≤ x15_2
     rotate_left
     ·rw [if_neg c36] at H
      exact absurd H (by simp)
     rw [if_pos c36] at H
     have c36b0 : decide (0 ≤ x15_2) = true := decide_eq_true c36
     clear c36
     replace H := bE H
     obtain ⟨t349, A370, H⟩ := H
     try dsimp only at H
     have A37 := Aside0.mk A370
     clear A370
     by_cases c38 : t349 = true
     rotate_left
     ·replace c38 := Bool.eq_false_iff.mpr c38
      subst c38
      rw [if_neg fF] at H
      simp only [Option.some.injEq, Prod.mk.injEq] at H
      obtain ⟨rfl, rfl⟩ := H
      try go_wp2
      have n0_ := aM (Kd.N_drew HO_10.out)
      have n1_ := aM (Kd.N_drew HO_11.out)
      have n2_ := aM (Kd.N_drew HO_12.out)
      have n3_ := aM (Kd.R_drew HO_13.out)
      have n4_ := aM (blk_drew BK332.out)
      have n5_ := aM (below_drew1 HB.out)
      clear HO_10 HO_11 HO_12 HO_13 BK332 HB
      have HO_10 := n0_
      have HO_11 := n1_
      have HO_12 := n2_
      have HO_13 := n3_
      have BK332 := n4_
      have HB := n5_
      clear n0_ n1_ n2_ n3_ n4_ n5_
      have p348 : 0 ≤ (x15_2 : Int) := oA
      have q348 : x15_2 < (l2.length : Int) := oA
      obtain ⟨ad348, e348, hx348_0⟩ := Kd.at_int HR2.out x15_2 p348 q348
      have hw348_0 := hx348_0
      cases e348
      replace hx348_0 := cB HB.out hx348_0
      replace p348 := eq_true p348
      replace q348 := eq_true q348
      refine start_ (n := 7) (S := fun w' => w'.cell? ⟨gb332, 0, none⟩ = some (.int .i64 a0_0) ∧ w'.cell? ⟨gb332, 1, none⟩ = some (.slice A0_1 l0_1.length c0_1) ∧ w'.cell? (ad348.add (x15_2).toNat) = some (.int .i64 (rd l2 x15_2))) (ds := []) (pT 0 7) kR rfl rfl ⟨(blk_cell BK332.out 0).trans rfl, (blk_cell BK332.out 1).trans rfl, (cB HB.out hw348_0 :)⟩ (fun hHeld => ?_)
      generalize wr.drew = w72 at HO_10 HO_11 HO_12 HO_13 BK332 HB hx348_0 hHeld ⊢
      refine pure_ (i := 1) (N := some 53) (v := ?_) (a' := ?_) (qT [0,1,1,5]) rfl rfl kR (fun _ _ _ h => h) (Or.inl ⟨by rfl, ?_⟩) ?_ ?_
      rotate_left
      ·exact gW
      rotate_left
      ·exact aP
      refine pure_ (i := 2) (N := some 54) (v := ?_) (a' := ?_) (qT [0,1,2,4]) rfl rfl kR (fun _ _ _ h => h) (Or.inl ⟨by rfl, ?_⟩) ?_ ?_
      rotate_left
      ·exact gW
      rotate_left
      ·exact aP
      refine pure_ (i := 3) (N := some 55) (v := ?_) (a' := ?_) (qT [0,1,3,3]) rfl rfl kR (fun _ _ _ h => h) (Or.inl ⟨by rfl, ?_⟩) ?_ ?_
      rotate_left
      ·exact gW
      rotate_left
      ·exact aP
      refine take_ (i := 0) (N := some 52) (v := ?_) (a' := ?_) (pT 4 3) rfl rfl kR (fun _ _ _ h => h) (Or.inl ⟨by rfl, ?_⟩) hHeld ?_ ?_
      rotate_left
      ·rintro w' ⟨s0, s1, s2⟩
       go_simp
       with_reducible rfl
      rotate_left
      ·exact aP
      refine take_ (i := 4) (N := some 56) (v := ?_) (a' := ?_) (pT 5 2) rfl rfl kR (fun _ _ _ h => h) (Or.inl ⟨by rfl, ?_⟩) hHeld ?_ ?_
      rotate_left
      ·rintro w' ⟨s0, s1, s2⟩
       go_simp
       with_reducible rfl
      rotate_left
      ·exact aP
      refine one_ (i := 5) (N := some 57) (pT 6 1) rfl rfl kR (by decide) (fun K hK => ?_)
      refine goes_ Tryd.func50 kR rfl #[.agg #[.int .i64 a0_0, .slice A0_1 l0_1.length c0_1], .int .i64 (rd l2 x15_2)] (by rfl) rfl rfl mM ?_
      with_reducible refine (spec_l2Node.calls a0_0 _ _ l0_1 (rd l2 x15_2) false _ ?side1 ?side2 A37.out).mono ?_
      (case side1 => exact cP (Kd.C_below HR0_1.out HB.out))
      (case side2 => exact HC0_1.out)
      rintro e w73 ⟨rfl, hb⟩
      refine ⟨_, rfl, ?_⟩
      have n0_ := aM (Kd.N_below (by exact uP HO_10.out) hb)
      have n1_ := aM (Kd.N_below (by exact uP HO_11.out) hb)
      have n2_ := aM (Kd.N_below (by exact uP HO_12.out) hb)
      have n3_ := aM (Kd.R_below (by exact rP HO_13.out) hb)
      have n4_ := aM (kB hb BK332.out)
      have n5_ := aM (below_step (by exact bB) hb)
      clear HO_10 HO_11 HO_12 HO_13 BK332 HB
      have HO_10 := n0_
      have HO_11 := n1_
      have HO_12 := n2_
      have HO_13 := n3_
      have BK332 := n4_
      have HB := n5_
      clear n0_ n1_ n2_ n3_ n4_ n5_
      (try clear hb)
      (try clear hb2)
      (try clear hk)
      (try clear hi)
      refine hK.out _ _ ⟨(blk_cell BK332.out 0).trans rfl, (blk_cell BK332.out 1).trans rfl, (cB HB.out hw348_0 :)⟩ (fun hHeld => ?_)
      clear hK K
      refine norm_ (a' := ?_) ?_ ?_
      rotate_left
      ·show Act.put _ (some 57) _ = _
       simp only [Act.put, List.setIfInBounds_toArray, List.set_cons_zero, List.set_cons_succ, i64_w, i32_w]
       rfl
      refine pure_ (i := 6) (N := some 58) (v := ?_) (a' := ?_) (pT 7 0) rfl rfl kR (fun _ _ _ h => h) (Or.inl ⟨by rfl, ?_⟩) ?_ ?_
      rotate_left
      ·exact gW
      rotate_left
      ·exact aP
      refine done_ kR ?_
      try go_wp2
      go_ret2
      exact ⟨_, eW, by (with_reducible repeat (first | apply Kd.N_alloc | apply Kd.N_drewN | apply Kd.N_drew));exact Kd.N_mono HO_10.out (fun _ hk => hk.1), by exact bB⟩
     subst c38
     rw [if_pos rfl] at H
     by_cases c39 : 0 ≤ x14_2
     rotate_left
     ·rw [if_neg c39] at H
      exact absurd H (by simp)
     rw [if_pos c39] at H
     have c39b0 : decide (0 ≤ x14_2) = true := decide_eq_true c39
     clear c39
     by_cases c40 : x14_2 < (t338.length : Int)
     rotate_left
     ·rw [if_neg c40] at H
      exact absurd H (by simp)
     rw [if_pos c40] at H
     have c40b0 : decide (x14_2 < (t338.length : Int)) = true := decide_eq_true c40
     clear c40
     replace H := bE H
     obtain ⟨t352, A410, H⟩ := H
     try dsimp only at H
     have A41 := Aside0.mk A410
     clear A410
     by_cases c42 : t352 = true
     ·subst c42
      rw [if_pos rfl] at H
      by_cases c43 : x14_2 < 0
      ·rw [if_pos c43] at H
       have c43b0 : decide (x14_2 < 0) = true := decide_eq_true c43
       clear c43
       simp only [Option.some.injEq, Prod.mk.injEq] at H
       obtain ⟨rfl, rfl⟩ := H
       try go_wp2
       have n0_ := aM (Kd.N_drew HO_10.out)
       have n1_ := aM (Kd.N_drew HO_11.out)
       have n2_ := aM (Kd.N_drew HO_12.out)
       have n3_ := aM (Kd.R_drew HO_13.out)
       have n4_ := aM (blk_drew BK332.out)
       have n5_ := aM (below_drew1 HB.out)
       clear HO_10 HO_11 HO_12 HO_13 BK332 HB
       have HO_10 := n0_
       have HO_11 := n1_
       have HO_12 := n2_
       have HO_13 := n3_
       have BK332 := n4_
       have HB := n5_
       clear n0_ n1_ n2_ n3_ n4_ n5_
       have p348 : 0 ≤ (x15_2 : Int) := oA
       have q348 : x15_2 < (l2.length : Int) := oA
       obtain ⟨ad348, e348, hx348_0⟩ := Kd.at_int HR2.out x15_2 p348 q348
       have hw348_0 := hx348_0
       cases e348
       replace hx348_0 := cB HB.out hx348_0
       replace p348 := eq_true p348
       replace q348 := eq_true q348
       refine start_ (n := 7) (S := fun w' => w'.cell? ⟨gb332, 0, none⟩ = some (.int .i64 a0_0) ∧ w'.cell? ⟨gb332, 1, none⟩ = some (.slice A0_1 l0_1.length c0_1) ∧ w'.cell? (ad348.add (x15_2).toNat) = some (.int .i64 (rd l2 x15_2))) (ds := []) (pT 0 7) kR rfl rfl ⟨(blk_cell BK332.out 0).trans rfl, (blk_cell BK332.out 1).trans rfl, (cB HB.out hw348_0 :)⟩ (fun hHeld => ?_)
       generalize wr.drew = w44 at HO_10 HO_11 HO_12 HO_13 BK332 HB hx348_0 hHeld ⊢
       refine pure_ (i := 1) (N := some 53) (v := ?_) (a' := ?_) (qT [0,1,1,5]) rfl rfl kR (fun _ _ _ h => h) (Or.inl ⟨by rfl, ?_⟩) ?_ ?_
       rotate_left
       ·exact gW
       rotate_left
       ·exact aP
       refine pure_ (i := 2) (N := some 54) (v := ?_) (a' := ?_) (qT [0,1,2,4]) rfl rfl kR (fun _ _ _ h => h) (Or.inl ⟨by rfl, ?_⟩) ?_ ?_
       rotate_left
       ·exact gW
       rotate_left
       ·exact aP
       refine pure_ (i := 3) (N := some 55) (v := ?_) (a' := ?_) (qT [0,1,3,3]) rfl rfl kR (fun _ _ _ h => h) (Or.inl ⟨by rfl, ?_⟩) ?_ ?_
       rotate_left
       ·exact gW
       rotate_left
       ·exact aP
       refine take_ (i := 0) (N := some 52) (v := ?_) (a' := ?_) (pT 4 3) rfl rfl kR (fun _ _ _ h => h) (Or.inl ⟨by rfl, ?_⟩) hHeld ?_ ?_
       rotate_left
       ·rintro w' ⟨s0, s1, s2⟩
        go_simp
        with_reducible rfl
       rotate_left
       ·exact aP
       refine take_ (i := 4) (N := some 56) (v := ?_) (a' := ?_) (pT 5 2) rfl rfl kR (fun _ _ _ h => h) (Or.inl ⟨by rfl, ?_⟩) hHeld ?_ ?_
       rotate_left
       ·rintro w' ⟨s0, s1, s2⟩
        go_simp
        with_reducible rfl
       rotate_left
       ·exact aP
       refine one_ (i := 5) (N := some 57) (pT 6 1) rfl rfl kR (by decide) (fun K hK => ?_)
       refine goes_ Tryd.func50 kR rfl #[.agg #[.int .i64 a0_0, .slice A0_1 l0_1.length c0_1], .int .i64 (rd l2 x15_2)] (by rfl) rfl rfl mM ?_
       with_reducible refine (spec_l2Node.calls a0_0 _ _ l0_1 (rd l2 x15_2) true _ ?side1 ?side2 A37.out).mono ?_
       (case side1 => exact cP (Kd.C_below HR0_1.out HB.out))
       (case side2 => exact HC0_1.out)
       rintro e w45 ⟨rfl, hb⟩
       refine ⟨_, rfl, ?_⟩
       have n0_ := aM (Kd.N_below (by exact uP HO_10.out) hb)
       have n1_ := aM (Kd.N_below (by exact uP HO_11.out) hb)
       have n2_ := aM (Kd.N_below (by exact uP HO_12.out) hb)
       have n3_ := aM (Kd.R_below (by exact rP HO_13.out) hb)
       have n4_ := aM (kB hb BK332.out)
       have n5_ := aM (below_step (by exact bB) hb)
       clear HO_10 HO_11 HO_12 HO_13 BK332 HB
       have HO_10 := n0_
       have HO_11 := n1_
       have HO_12 := n2_
       have HO_13 := n3_
       have BK332 := n4_
       have HB := n5_
       clear n0_ n1_ n2_ n3_ n4_ n5_
       (try clear hb)
       (try clear hb2)
       (try clear hk)
       (try clear hi)
       refine hK.out _ _ ⟨(blk_cell BK332.out 0).trans rfl, (blk_cell BK332.out 1).trans rfl, (cB HB.out hw348_0 :)⟩ (fun hHeld => ?_)
       clear hK K
       refine norm_ (a' := ?_) ?_ ?_
       rotate_left
       ·show Act.put _ (some 57) _ = _
        simp only [Act.put, List.setIfInBounds_toArray, List.set_cons_zero, List.set_cons_succ, i64_w, i32_w]
        rfl
       refine pure_ (i := 6) (N := some 58) (v := ?_) (a' := ?_) (pT 7 0) rfl rfl kR (fun _ _ _ h => h) (Or.inl ⟨by rfl, ?_⟩) ?_ ?_
       rotate_left
       ·exact gW
       rotate_left
       ·exact aP
       refine done_ kR ?_
       try go_wp2
       have n0_ := aM (Kd.N_drew HO_10.out)
       have n1_ := aM (Kd.N_drew HO_11.out)
       have n2_ := aM (Kd.N_drew HO_12.out)
       have n3_ := aM (Kd.R_drew HO_13.out)
       have n4_ := aM (blk_drew BK332.out)
       have n5_ := aM (below_drew1 HB.out)
       clear HO_10 HO_11 HO_12 HO_13 BK332 HB
       have HO_10 := n0_
       have HO_11 := n1_
       have HO_12 := n2_
       have HO_13 := n3_
       have BK332 := n4_
       have HB := n5_
       clear n0_ n1_ n2_ n3_ n4_ n5_
       have p350 : 0 ≤ (x14_2 : Int) := oA
       have q350 : x14_2 < (t338.length : Int) := oA
       obtain ⟨ad350, A350_0, c350_0, e350, hx350_0, hl350_0, hi350_0⟩ := at_L2 (Kd.N_reads' HO_11.out).2.2 x14_2 p350 q350
       cases e350
       obtain ⟨ce350, hce350, hMe350, hcc350⟩ := Kd.N_get HO_11.out [] x14_2 p350 (by first | exact q350 | exact oA | (have e_ := (Kd.N_reads' HO_11.out).1;omega))
       obtain ⟨ua350_0, uc350_0, rfl, ul350_0, ge350_0⟩ := Kd.FK_slice_open hMe350
       have hv350_0 := hcc350 0 _ rfl
       rw [Nat.add_zero, show ((Kd.slice 3 (Kd.int .i64))).sz = 1 from rfl, Nat.mul_one] at hv350_0
       replace hv350_0 := Option.some.inj (hv350_0.symm.trans hx350_0)
       injection hv350_0 with hva_ hvn_ hvc_
       rw [hva_] at ge350_0
       rw [hvc_] at ul350_0
       have HL350_0 := aM (show Kd.V (Kd.int .i64) 3 _ w.heap.size _ _ (rd_L2 t338 x14_2) from Kd.V_mk ul350_0 ge350_0)
       clear hva_ hvn_ hvc_ ge350_0 ul350_0 hcc350 hce350
       have HR350_0 := Aside0.mk hi350_0
       have HC350_0 := Aside0.mk hl350_0
       clear hi350_0 hl350_0
       replace p350 := eq_true p350
       replace q350 := eq_true q350
       have p351 : 0 ≤ (x15_2 : Int) := oA
       have q351 : x15_2 < (l2.length : Int) := oA
       obtain ⟨ad351, e351, hx351_0⟩ := Kd.at_int HR2.out x15_2 p351 q351
       have hw351_0 := hx351_0
       obtain rfl : ad348 = ad351 := (by injection e351)
       replace hx351_0 := cB HB.out hx351_0
       replace p351 := eq_true p351
       replace q351 := eq_true q351
       refine start_ (n := 10) (S := fun w' => w'.cell? (ad350.add (x14_2).toNat) = some (.slice A350_0 (rd_L2 t338 x14_2).length c350_0) ∧ w'.cell? (ad348.add (x15_2).toNat) = some (.int .i64 (rd l2 x15_2))) (ds := []) (pT 0 10) kR rfl rfl ⟨hx350_0, (cB HB.out hw351_0 :)⟩ (fun hHeld => ?_);refine with_tabW spec_PlayAttacks.tab12 spec_PlayAttacks.bits12 (fun HT_ HW_ => ?_)
       generalize w45.drew = w46 at HO_10 HO_11 HO_12 HO_13 BK332 HB HL350_0 HR350_0 hx350_0 hx351_0 hHeld ⊢
       refine pure_ (i := 0) (N := some 60) (v := ?_) (a' := ?_) (pT 1 9) rfl rfl (any_of HT_.out kR) (fun _ _ _ h => h) (Or.inl ⟨by rfl, ?_⟩) ?_ ?_
       rotate_left
       ·exact gW
       rotate_left
       ·exact aP
       refine pure_ (i := 1) (N := some 61) (v := ?_) (a' := ?_) (pT 2 8) rfl rfl (any_of HT_.out kR) (fun _ _ _ h => h) (Or.inl ⟨by rfl, ?_⟩) ?_ ?_
       rotate_left
       ·exact gW
       rotate_left
       ·exact aP
       refine pure_ (i := 2) (N := some 62) (v := ?_) (a' := ?_) (pT 3 7) rfl rfl (any_of HT_.out kR) (fun _ _ _ h => h) (Or.inl ⟨by rfl, ?_⟩) ?_ ?_
       rotate_left
       ·exact gW
       rotate_left
       ·exact aP
       refine pure_ (i := 4) (N := some 64) (v := ?_) (a' := ?_) (qT [3,1,1,5]) rfl rfl (any_of HT_.out kR) (fun _ _ _ h => h) (Or.inl ⟨by rfl, ?_⟩) ?_ ?_
       rotate_left
       ·exact gW
       rotate_left
       ·exact aP
       refine pure_ (i := 5) (N := some 65) (v := ?_) (a' := ?_) (qT [3,1,2,4]) rfl rfl (any_of HT_.out kR) (fun _ _ _ h => h) (Or.inl ⟨by rfl, ?_⟩) ?_ ?_
       rotate_left
       ·exact gW
       rotate_left
       ·exact aP
       refine pure_ (i := 6) (N := some 66) (v := ?_) (a' := ?_) (qT [3,1,3,3]) rfl rfl (any_of HT_.out kR) (fun _ _ _ h => h) (Or.inl ⟨by rfl, ?_⟩) ?_ ?_
       rotate_left
       ·exact gW
       rotate_left
       ·exact aP
       refine take_ (i := 3) (N := some 63) (v := ?_) (a' := ?_) (pT 7 3) rfl rfl (take_ofW HT_.out HW_.out kR) (fun _ _ _ h => h) (Or.inl ⟨by rfl, ?_⟩) hHeld ?_ ?_
       rotate_left
       ·rintro w' ⟨s0, s1⟩
        go_simp
        with_reducible rfl
       rotate_left
       ·exact aP
       refine take_ (i := 7) (N := some 67) (v := ?_) (a' := ?_) (pT 8 2) rfl rfl (take_ofW HT_.out HW_.out kR) (fun _ _ _ h => h) (Or.inl ⟨by rfl, ?_⟩) hHeld ?_ ?_
       rotate_left
       ·rintro w' ⟨s0, s1⟩
        go_simp
        with_reducible rfl
       rotate_left
       ·exact aP
       refine one_ (i := 8) (N := some 68) (pT 9 1) rfl rfl (one_of HT_.out kR) (by decide) (fun K hK => ?_)
       refine goes_ Tryd.func43 kR rfl #[.slice A350_0 (rd_L2 t338 x14_2).length c350_0, .int .i64 (rd l2 x15_2)] (by rfl) rfl rfl mM ?_
       with_reducible refine (spec_l1Has.calls k2 _ _ (rd_L2 t338 x14_2) (rd l2 x15_2) true _ ?side1 ?side2 A41.out).mono ?_
       (case side1 => exact cP (by repeat (first | (with_reducible exact HR350_0.out) | (with_reducible refine Kd.C_alloc ?_ _) | (with_reducible refine Kd.C_drewN ?_ _) | (with_reducible refine Kd.C_drew ?_) | exact HR350_0.out)))
       (case side2 => exact HC350_0.out)
       rintro e w' ⟨rfl, ⟨nd, rfl⟩⟩
       refine ⟨_, rfl, ?_⟩
       refine hK.out _ _ ⟨hHeld.1, (cB HB.out hw351_0 :)⟩ (fun hHeld => ?_)
       clear hK K
       refine norm_ (a' := ?_) ?_ ?_
       rotate_left
       ·show Act.put _ (some 68) _ = _
        simp only [Act.put, List.setIfInBounds_toArray, List.set_cons_zero, List.set_cons_succ, i64_w, i32_w]
        rfl
       refine pure_ (i := 9) (N := some 69) (v := ?_) (a' := ?_) (pT 10 0) rfl rfl (any_of HT_.out kR) (fun _ _ _ h => h) (Or.inl ⟨by rfl, ?_⟩) ?_ ?_
       rotate_left
       ·exact gW
       rotate_left
       ·exact aP
       refine done_ (done_of HT_.out kR) ?_
       try go_wp2
       go_ret2
       exact ⟨_, eW, by (with_reducible repeat (first | apply Kd.N_alloc | apply Kd.N_drewN | apply Kd.N_drew));exact Kd.N_mono HO_10.out (fun _ hk => hk.1), by exact bB⟩
      rw [if_neg c43] at H
      have c43b0 : decide (x14_2 < 0) = false := decide_eq_false c43
      clear c43
      replace H := bE H
      obtain ⟨t354, A470, H⟩ := H
      try dsimp only at H
      have A47 := Aside0.mk A470
      clear A470
      by_cases c48 : x10_2.length < 5864062014805
      rotate_left
      ·rw [if_neg c48] at H
       exact absurd H (by simp)
      rw [if_pos c48] at H
      have LMc48 := Aside0.mk c48
      clear c48
      obtain ⟨y357, hy357⟩ : ∃ y_ : List (List Int), y_ = (x10_2 ++ [t354]) := ⟨_, rfl⟩
      replace H : (spec_PlayAttacks.l0 k2 l2 y357 t338 t341 t344 x14_2 (wrap64 (x15_2 + 1)) a0_0 l0_1) = some (r1, r2) := by first | (rw [hy357];with_reducible exact H) | (rw [hy357];with_reducible exact hB H) | with_reducible exact hB H | with_reducible exact H | (rw [hy357];exact H) | exact H
      have Ny357 := Aside0.mk hy357
      clear hy357
      have H' := Aside0.mk H
      clear H
      try go_wp2
      have n0_ := aM (Kd.N_drew HO_10.out)
      have n1_ := aM (Kd.N_drew HO_11.out)
      have n2_ := aM (Kd.N_drew HO_12.out)
      have n3_ := aM (Kd.R_drew HO_13.out)
      have n4_ := aM (blk_drew BK332.out)
      have n5_ := aM (below_drew1 HB.out)
      clear HO_10 HO_11 HO_12 HO_13 BK332 HB
      have HO_10 := n0_
      have HO_11 := n1_
      have HO_12 := n2_
      have HO_13 := n3_
      have BK332 := n4_
      have HB := n5_
      clear n0_ n1_ n2_ n3_ n4_ n5_
      have p348 : 0 ≤ (x15_2 : Int) := oA
      have q348 : x15_2 < (l2.length : Int) := oA
      obtain ⟨ad348, e348, hx348_0⟩ := Kd.at_int HR2.out x15_2 p348 q348
      have hw348_0 := hx348_0
      cases e348
      replace hx348_0 := cB HB.out hx348_0
      replace p348 := eq_true p348
      replace q348 := eq_true q348
      refine start_ (n := 7) (S := fun w' => w'.cell? ⟨gb332, 0, none⟩ = some (.int .i64 a0_0) ∧ w'.cell? ⟨gb332, 1, none⟩ = some (.slice A0_1 l0_1.length c0_1) ∧ w'.cell? (ad348.add (x15_2).toNat) = some (.int .i64 (rd l2 x15_2))) (ds := []) (pT 0 7) kR rfl rfl ⟨(blk_cell BK332.out 0).trans rfl, (blk_cell BK332.out 1).trans rfl, (cB HB.out hw348_0 :)⟩ (fun hHeld => ?_)
      generalize wr.drew = w49 at HO_10 HO_11 HO_12 HO_13 BK332 HB hx348_0 hHeld ⊢
      refine pure_ (i := 1) (N := some 53) (v := ?_) (a' := ?_) (qT [0,1,1,5]) rfl rfl kR (fun _ _ _ h => h) (Or.inl ⟨by rfl, ?_⟩) ?_ ?_
      rotate_left
      ·exact gW
      rotate_left
      ·exact aP
      refine pure_ (i := 2) (N := some 54) (v := ?_) (a' := ?_) (qT [0,1,2,4]) rfl rfl kR (fun _ _ _ h => h) (Or.inl ⟨by rfl, ?_⟩) ?_ ?_
      rotate_left
      ·exact gW
      rotate_left
      ·exact aP
      refine pure_ (i := 3) (N := some 55) (v := ?_) (a' := ?_) (qT [0,1,3,3]) rfl rfl kR (fun _ _ _ h => h) (Or.inl ⟨by rfl, ?_⟩) ?_ ?_
      rotate_left
      ·exact gW
      rotate_left
      ·exact aP
      refine take_ (i := 0) (N := some 52) (v := ?_) (a' := ?_) (pT 4 3) rfl rfl kR (fun _ _ _ h => h) (Or.inl ⟨by rfl, ?_⟩) hHeld ?_ ?_
      rotate_left
      ·rintro w' ⟨s0, s1, s2⟩
       go_simp
       with_reducible rfl
      rotate_left
      ·exact aP
      refine take_ (i := 4) (N := some 56) (v := ?_) (a' := ?_) (pT 5 2) rfl rfl kR (fun _ _ _ h => h) (Or.inl ⟨by rfl, ?_⟩) hHeld ?_ ?_
      rotate_left
      ·rintro w' ⟨s0, s1, s2⟩
       go_simp
       with_reducible rfl
      rotate_left
      ·exact aP
      refine one_ (i := 5) (N := some 57) (pT 6 1) rfl rfl kR (by decide) (fun K hK => ?_)
      refine goes_ Tryd.func50 kR rfl #[.agg #[.int .i64 a0_0, .slice A0_1 l0_1.length c0_1], .int .i64 (rd l2 x15_2)] (by rfl) rfl rfl mM ?_
      with_reducible refine (spec_l2Node.calls a0_0 _ _ l0_1 (rd l2 x15_2) true _ ?side1 ?side2 A37.out).mono ?_
      (case side1 => exact cP (Kd.C_below HR0_1.out HB.out))
      (case side2 => exact HC0_1.out)
      rintro e w50 ⟨rfl, hb⟩
      refine ⟨_, rfl, ?_⟩
      have n0_ := aM (Kd.N_below (by exact uP HO_10.out) hb)
      have n1_ := aM (Kd.N_below (by exact uP HO_11.out) hb)
      have n2_ := aM (Kd.N_below (by exact uP HO_12.out) hb)
      have n3_ := aM (Kd.R_below (by exact rP HO_13.out) hb)
      have n4_ := aM (kB hb BK332.out)
      have n5_ := aM (below_step (by exact bB) hb)
      clear HO_10 HO_11 HO_12 HO_13 BK332 HB
      have HO_10 := n0_
      have HO_11 := n1_
      have HO_12 := n2_
      have HO_13 := n3_
      have BK332 := n4_
      have HB := n5_
      clear n0_ n1_ n2_ n3_ n4_ n5_
      (try clear hb)
      (try clear hb2)
      (try clear hk)
      (try clear hi)
      refine hK.out _ _ ⟨(blk_cell BK332.out 0).trans rfl, (blk_cell BK332.out 1).trans rfl, (cB HB.out hw348_0 :)⟩ (fun hHeld => ?_)
      clear hK K
      refine norm_ (a' := ?_) ?_ ?_
      rotate_left
      ·show Act.put _ (some 57) _ = _
       simp only [Act.put, List.setIfInBounds_toArray, List.set_cons_zero, List.set_cons_succ, i64_w, i32_w]
       rfl
      refine pure_ (i := 6) (N := some 58) (v := ?_) (a' := ?_) (pT 7 0) rfl rfl kR (fun _ _ _ h => h) (Or.inl ⟨by rfl, ?_⟩) ?_ ?_
      rotate_left
      ·exact gW
      rotate_left
      ·exact aP
      refine done_ kR ?_
      try go_wp2
      have n0_ := aM (Kd.N_drew HO_10.out)
      have n1_ := aM (Kd.N_drew HO_11.out)
      have n2_ := aM (Kd.N_drew HO_12.out)
      have n3_ := aM (Kd.R_drew HO_13.out)
      have n4_ := aM (blk_drew BK332.out)
      have n5_ := aM (below_drew1 HB.out)
      clear HO_10 HO_11 HO_12 HO_13 BK332 HB
      have HO_10 := n0_
      have HO_11 := n1_
      have HO_12 := n2_
      have HO_13 := n3_
      have BK332 := n4_
      have HB := n5_
      clear n0_ n1_ n2_ n3_ n4_ n5_
      have p350 : 0 ≤ (x14_2 : Int) := oA
      have q350 : x14_2 < (t338.length : Int) := oA
      obtain ⟨ad350, A350_0, c350_0, e350, hx350_0, hl350_0, hi350_0⟩ := at_L2 (Kd.N_reads' HO_11.out).2.2 x14_2 p350 q350
      cases e350
      obtain ⟨ce350, hce350, hMe350, hcc350⟩ := Kd.N_get HO_11.out [] x14_2 p350 (by first | exact q350 | exact oA | (have e_ := (Kd.N_reads' HO_11.out).1;omega))
      obtain ⟨ua350_0, uc350_0, rfl, ul350_0, ge350_0⟩ := Kd.FK_slice_open hMe350
      have hv350_0 := hcc350 0 _ rfl
      rw [Nat.add_zero, show ((Kd.slice 3 (Kd.int .i64))).sz = 1 from rfl, Nat.mul_one] at hv350_0
      replace hv350_0 := Option.some.inj (hv350_0.symm.trans hx350_0)
      injection hv350_0 with hva_ hvn_ hvc_
      rw [hva_] at ge350_0
      rw [hvc_] at ul350_0
      have HL350_0 := aM (show Kd.V (Kd.int .i64) 3 _ w.heap.size _ _ (rd_L2 t338 x14_2) from Kd.V_mk ul350_0 ge350_0)
      clear hva_ hvn_ hvc_ ge350_0 ul350_0 hcc350 hce350
      have HR350_0 := Aside0.mk hi350_0
      have HC350_0 := Aside0.mk hl350_0
      clear hi350_0 hl350_0
      replace p350 := eq_true p350
      replace q350 := eq_true q350
      have p351 : 0 ≤ (x15_2 : Int) := oA
      have q351 : x15_2 < (l2.length : Int) := oA
      obtain ⟨ad351, e351, hx351_0⟩ := Kd.at_int HR2.out x15_2 p351 q351
      have hw351_0 := hx351_0
      obtain rfl : ad348 = ad351 := (by injection e351)
      replace hx351_0 := cB HB.out hx351_0
      replace p351 := eq_true p351
      replace q351 := eq_true q351
      refine start_ (n := 10) (S := fun w' => w'.cell? (ad350.add (x14_2).toNat) = some (.slice A350_0 (rd_L2 t338 x14_2).length c350_0) ∧ w'.cell? (ad348.add (x15_2).toNat) = some (.int .i64 (rd l2 x15_2))) (ds := []) (pT 0 10) kR rfl rfl ⟨hx350_0, (cB HB.out hw351_0 :)⟩ (fun hHeld => ?_);refine with_tabW spec_PlayAttacks.tab12 spec_PlayAttacks.bits12 (fun HT_ HW_ => ?_)
      generalize w50.drew = w51 at HO_10 HO_11 HO_12 HO_13 BK332 HB HL350_0 HR350_0 hx350_0 hx351_0 hHeld ⊢
      refine pure_ (i := 0) (N := some 60) (v := ?_) (a' := ?_) (pT 1 9) rfl rfl (any_of HT_.out kR) (fun _ _ _ h => h) (Or.inl ⟨by rfl, ?_⟩) ?_ ?_
      rotate_left
      ·exact gW
      rotate_left
      ·exact aP
      refine pure_ (i := 1) (N := some 61) (v := ?_) (a' := ?_) (pT 2 8) rfl rfl (any_of HT_.out kR) (fun _ _ _ h => h) (Or.inl ⟨by rfl, ?_⟩) ?_ ?_
      rotate_left
      ·exact gW
      rotate_left
      ·exact aP
      refine pure_ (i := 2) (N := some 62) (v := ?_) (a' := ?_) (pT 3 7) rfl rfl (any_of HT_.out kR) (fun _ _ _ h => h) (Or.inl ⟨by rfl, ?_⟩) ?_ ?_
      rotate_left
      ·exact gW
      rotate_left
      ·exact aP
      refine pure_ (i := 4) (N := some 64) (v := ?_) (a' := ?_) (qT [3,1,1,5]) rfl rfl (any_of HT_.out kR) (fun _ _ _ h => h) (Or.inl ⟨by rfl, ?_⟩) ?_ ?_
      rotate_left
      ·exact gW
      rotate_left
      ·exact aP
      refine pure_ (i := 5) (N := some 65) (v := ?_) (a' := ?_) (qT [3,1,2,4]) rfl rfl (any_of HT_.out kR) (fun _ _ _ h => h) (Or.inl ⟨by rfl, ?_⟩) ?_ ?_
      rotate_left
      ·exact gW
      rotate_left
      ·exact aP
      refine pure_ (i := 6) (N := some 66) (v := ?_) (a' := ?_) (qT [3,1,3,3]) rfl rfl (any_of HT_.out kR) (fun _ _ _ h => h) (Or.inl ⟨by rfl, ?_⟩) ?_ ?_
      rotate_left
      ·exact gW
      rotate_left
      ·exact aP
      refine take_ (i := 3) (N := some 63) (v := ?_) (a' := ?_) (pT 7 3) rfl rfl (take_ofW HT_.out HW_.out kR) (fun _ _ _ h => h) (Or.inl ⟨by rfl, ?_⟩) hHeld ?_ ?_
      rotate_left
      ·rintro w' ⟨s0, s1⟩
       go_simp
       with_reducible rfl
      rotate_left
      ·exact aP
      refine take_ (i := 7) (N := some 67) (v := ?_) (a' := ?_) (pT 8 2) rfl rfl (take_ofW HT_.out HW_.out kR) (fun _ _ _ h => h) (Or.inl ⟨by rfl, ?_⟩) hHeld ?_ ?_
      rotate_left
      ·rintro w' ⟨s0, s1⟩
       go_simp
       with_reducible rfl
      rotate_left
      ·exact aP
      refine one_ (i := 8) (N := some 68) (pT 9 1) rfl rfl (one_of HT_.out kR) (by decide) (fun K hK => ?_)
      refine goes_ Tryd.func43 kR rfl #[.slice A350_0 (rd_L2 t338 x14_2).length c350_0, .int .i64 (rd l2 x15_2)] (by rfl) rfl rfl mM ?_
      with_reducible refine (spec_l1Has.calls k2 _ _ (rd_L2 t338 x14_2) (rd l2 x15_2) true _ ?side1 ?side2 A41.out).mono ?_
      (case side1 => exact cP (by repeat (first | (with_reducible exact HR350_0.out) | (with_reducible refine Kd.C_alloc ?_ _) | (with_reducible refine Kd.C_drewN ?_ _) | (with_reducible refine Kd.C_drew ?_) | exact HR350_0.out)))
      (case side2 => exact HC350_0.out)
      rintro e w' ⟨rfl, ⟨nd, rfl⟩⟩
      refine ⟨_, rfl, ?_⟩
      refine hK.out _ _ ⟨hHeld.1, (cB HB.out hw351_0 :)⟩ (fun hHeld => ?_)
      clear hK K
      refine norm_ (a' := ?_) ?_ ?_
      rotate_left
      ·show Act.put _ (some 68) _ = _
       simp only [Act.put, List.setIfInBounds_toArray, List.set_cons_zero, List.set_cons_succ, i64_w, i32_w]
       rfl
      refine pure_ (i := 9) (N := some 69) (v := ?_) (a' := ?_) (pT 10 0) rfl rfl (any_of HT_.out kR) (fun _ _ _ h => h) (Or.inl ⟨by rfl, ?_⟩) ?_ ?_
      rotate_left
      ·exact gW
      rotate_left
      ·exact aP
      refine done_ (done_of HT_.out kR) ?_
      have p353 : 0 ≤ (x14_2 : Int) := oA
      have q353 : x14_2 < (t338.length : Int) := oA
      obtain ⟨ad353, A353_0, c353_0, e353, hx353_0, hl353_0, hi353_0⟩ := at_L2 (Kd.N_reads' HO_11.out).2.2 x14_2 p353 q353
      obtain rfl : ad350 = ad353 := (by injection e353)
      obtain ⟨ce353, hce353, hMe353, hcc353⟩ := Kd.N_get HO_11.out [] x14_2 p353 (by first | exact q353 | exact oA | (have e_ := (Kd.N_reads' HO_11.out).1;omega))
      obtain ⟨ua353_0, uc353_0, rfl, ul353_0, ge353_0⟩ := Kd.FK_slice_open hMe353
      have hv353_0 := hcc353 0 _ rfl
      rw [Nat.add_zero, show ((Kd.slice 3 (Kd.int .i64))).sz = 1 from rfl, Nat.mul_one] at hv353_0
      replace hv353_0 := Option.some.inj (hv353_0.symm.trans hx353_0)
      injection hv353_0 with hva_ hvn_ hvc_
      rw [hva_] at ge353_0
      rw [hvc_] at ul353_0
      have HL353_0 := aM (show Kd.V (Kd.int .i64) 3 _ w.heap.size _ _ (rd_L2 t338 x14_2) from Kd.V_mk ul353_0 ge353_0)
      clear hva_ hvn_ hvc_ ge353_0 ul353_0 hcc353 hce353
      have HR353_0 := Aside0.mk hi353_0
      have HC353_0 := Aside0.mk hl353_0
      clear hi353_0 hl353_0
      replace p353 := eq_true p353
      replace q353 := eq_true q353
      have ea_ := Option.some.inj (hx350_0.symm.trans hx353_0)
      injection ea_ with ea_ en_ ec_
      subst ea_
      subst ec_
      clear en_
      try go_wp2_with (first | ((with_reducible refine gate_callee (f := 52) rfl ?_);refine goesL_ (some 86) rfl rfl Tryd.func52 kR rfl #[.slice A350_0 (rd_L2 t338 x14_2).length c350_0] rfl mM ?_;(with_reducible refine (spec_l1Own.calls _ _ (rd_L2 t338 x14_2) t354 _ ?side1 ?side2 A47.out).mono ?_);(case side1 => exact cP (by repeat (first | (with_reducible exact HR353_0.out) | (with_reducible refine Kd.C_alloc ?_ _) | (with_reducible refine Kd.C_drewN ?_ _) | (with_reducible refine Kd.C_drew ?_) | exact HR353_0.out)));(case side2 => exact HC353_0.out);rintro e w52 ⟨v355, rfl, ho0, hb⟩;refine ⟨_, rfl, ?_⟩;have n0_ := aM (Kd.N_elder' (by exact uP HO_10.out) (Kd.R_base ho0) hb);have n1_ := aM (Kd.N_elder' (by exact uP HO_11.out) (Kd.R_base ho0) hb);have n2_ := aM (Kd.N_elder' (by exact uP HO_12.out) (Kd.R_base ho0) hb);have n3_ := aM (Kd.R_elder' (by exact rP HO_13.out) (Kd.R_base ho0) hb);have n4_ := aM (Kd.V_elder' (by (with_reducible repeat (first | apply Kd.V_alloc | apply Kd.V_drewN | apply Kd.V_drew));exact HL350_0.out) (Kd.R_base ho0) hb);have n5_ := aM (Kd.V_elder' (by (with_reducible repeat (first | apply Kd.V_alloc | apply Kd.V_drewN | apply Kd.V_drew));exact HL353_0.out) (Kd.R_base ho0) hb);have n6_ := aM (Kd.R_lower (Kd.R_new' (Kd.R_newM (M := fun k_ => (w.heap.size ≤ k_)) ho0 (below_size (by exact bB)) (fun k_ h_ => h_)) (Kd.R_lt (by exact rP HO_13.out))) (below_size (by exact bB)));have n7_ := aM (kB hb BK332.out);have n8_ := aM (Kd.C_below (by repeat (first | (with_reducible exact HR350_0.out) | (with_reducible refine Kd.C_alloc ?_ _) | (with_reducible refine Kd.C_drewN ?_ _) | (with_reducible refine Kd.C_drew ?_) | exact HR350_0.out)) hb);have n9_ := aM (Kd.C_below (by repeat (first | (with_reducible exact HR353_0.out) | (with_reducible refine Kd.C_alloc ?_ _) | (with_reducible refine Kd.C_drewN ?_ _) | (with_reducible refine Kd.C_drew ?_) | exact HR353_0.out)) hb);have n10_ := aM (below_step (by exact bB) hb);clear HO_10 HO_11 HO_12 HO_13 HL350_0 HL353_0 BK332 HR350_0 HR353_0 HB;have HO_10 := n0_;have HO_11 := n1_;have HO_12 := n2_;have HO_13 := n3_;have HL350_0 := n4_;have HL353_0 := n5_;have HO356 := n6_;have BK332 := n7_;have HR350_0 := n8_;have HR353_0 := n9_;have HB := n10_;clear n0_ n1_ n2_ n3_ n4_ n5_ n6_ n7_ n8_ n9_ n10_;(try clear hb);(try clear ho0);obtain ⟨Ao54, co54, eo54⟩ := Kd.R_slice HO356.out;subst eo54) | ((with_reducible refine gate_builtin (b := .append) (xs := #[.tmp 81, .tmp 87]) rfl ?_);(try (refine gate_guard (by rfl) ?_;dsimp only));at_builtin;refine Kd.N_append (Kd.slice 3 (Kd.int .i64)) (w0 := w) w.heap.size rfl (.tmp 81) (.tmp 87) 26 36 (.slice none 0 0) 24 rfl Tryd.underlying26 info36 rfl (by decide) (by omega) u10 x10_2 t354 [.slice Ao54 t354.length co54] (fun k_ => (w.heap.size ≤ k_) ∧ some k_ ≠ (.slice (some ad350) t338.length co31 : Value).ownBlock ∧ some k_ ≠ (.slice Ao33 t341.length co33 : Value).ownBlock ∧ some k_ ≠ (v345 : Value).ownBlock ∧ k_ ≠ gb332) (fun k_ => ((fun k_ => (w.heap.size ≤ k_) ∧ some k_ ≠ (.slice (some ad350) t338.length co31 : Value).ownBlock ∧ some k_ ≠ (.slice Ao33 t341.length co33 : Value).ownBlock ∧ some k_ ≠ (v345 : Value).ownBlock ∧ k_ ≠ gb332)) k_ ∧ some k_ ≠ (u10 : Value).ownBlock) rfl rfl ?aP (fun _ hk => hk) ?aF ?aO ?aB ?aS ?aL ?_;(case aP => exact (Kd.FK_slice_mk (Kd.R_reads' (Kd.R_mono (ok' := (fun k_ => ((fun k_ => (w.heap.size ≤ k_) ∧ some k_ ≠ (.slice (some ad350) t338.length co31 : Value).ownBlock ∧ some k_ ≠ (.slice Ao33 t341.length co33 : Value).ownBlock ∧ some k_ ≠ (v345 : Value).ownBlock ∧ k_ ≠ gb332)) k_ ∧ some k_ ≠ (u10 : Value).ownBlock)) (Kd.R_types (Kd.R_apart' (Kd.R_apart' (Kd.R_apart' (HO356.out) (Kd.N_typed HO_11.out) (by decide)) (Kd.N_typed HO_12.out) (by decide)) (Kd.N_typed HO_10.out) (by decide)) BK332.out (by decide)) (fun k_ hk => ⟨⟨hk.1.1.1.1.1.1, ⟨hk.1.1.1.2, ⟨hk.1.1.2, ⟨hk.1.1.1.1.2, hk.2⟩⟩⟩⟩, hk.1.2⟩))).2.1 (Kd.R_F (Kd.R_mono (ok' := (fun k_ => ((fun k_ => (w.heap.size ≤ k_) ∧ some k_ ≠ (.slice (some ad350) t338.length co31 : Value).ownBlock ∧ some k_ ≠ (.slice Ao33 t341.length co33 : Value).ownBlock ∧ some k_ ≠ (v345 : Value).ownBlock ∧ k_ ≠ gb332)) k_ ∧ some k_ ≠ (u10 : Value).ownBlock)) (Kd.R_types (Kd.R_apart' (Kd.R_apart' (Kd.R_apart' (HO356.out) (Kd.N_typed HO_11.out) (by decide)) (Kd.N_typed HO_12.out) (by decide)) (Kd.N_typed HO_10.out) (by decide)) BK332.out (by decide)) (fun k_ hk => ⟨⟨hk.1.1.1.1.1.1, ⟨hk.1.1.1.2, ⟨hk.1.1.2, ⟨hk.1.1.1.1.2, hk.2⟩⟩⟩⟩, hk.1.2⟩)))));(case aB => exact (by exact bB));(case aF => exact (fun k_ hk => ⟨(Nat.le_trans (below_size (by exact bB)) hk), Kd.fresh' (Kd.N_lt (by exact uP HO_11.out)) k_ hk, Kd.fresh' (Kd.N_lt (by exact uP HO_12.out)) k_ hk, Kd.fresh' (Kd.R_lt (by exact rP HO_13.out)) k_ hk, Kd.freshB (g := gb332) (o := .cells #[.int .i64 a0_0, .slice A0_1 l0_1.length c0_1] 29 (0, 0)) (by exact kP BK332.out) k_ hk⟩));(case aO => exact (by (with_reducible repeat (first | apply Kd.N_alloc | apply Kd.N_drewN | apply Kd.N_drew));exact Kd.N_mono HO_10.out (fun _ hk => ⟨hk.1.1, ⟨hk.1.2.1, ⟨hk.1.2.2.1, ⟨hk.1.2.2.2.1, hk.1.2.2.2.2⟩⟩⟩⟩)));(case aS => exact (below_size (by exact bB)));(case aL => have := LMc48.out;omega);intro v358 w53 ho hb hg hat;rw [← Ny357.out] at ho;have n0_ := aM (Kd.N_afterv (ok := (fun k_ => (w.heap.size ≤ k_) ∧ some k_ ≠ (.slice Ao33 t341.length co33 : Value).ownBlock ∧ some k_ ≠ (v345 : Value).ownBlock ∧ some k_ ≠ (.slice Ao54 t354.length co54 : Value).ownBlock ∧ k_ ≠ gb332)) (by (with_reducible repeat (first | apply Kd.N_alloc | apply Kd.N_drewN | apply Kd.N_drew));exact Kd.N_mono HO_11.out (fun _ hk => ⟨⟨hk.1.1, ⟨hk.1.2.2.1, ⟨hk.1.2.2.2.1, ⟨hk.2, hk.1.2.2.2.2⟩⟩⟩⟩, hk.1.2.1⟩)) hg hat);have n1_ := aM (Kd.N_afterv (ok := (fun k_ => (w.heap.size ≤ k_) ∧ some k_ ≠ (.slice (some ad350) t338.length co31 : Value).ownBlock ∧ some k_ ≠ (v345 : Value).ownBlock ∧ some k_ ≠ (.slice Ao54 t354.length co54 : Value).ownBlock ∧ k_ ≠ gb332)) (by (with_reducible repeat (first | apply Kd.N_alloc | apply Kd.N_drewN | apply Kd.N_drew));exact Kd.N_mono HO_12.out (fun _ hk => ⟨⟨hk.1.1, ⟨hk.1.2.2.1, ⟨hk.1.2.2.2.1, ⟨hk.2, hk.1.2.2.2.2⟩⟩⟩⟩, hk.1.2.1⟩)) hg hat);have n2_ := aM (Kd.R_over' (by exact rP HO_13.out) (Kd.N_typed (by exact uP HO_10.out)) (by decide) hg);have n3_ := aM (blk_grown (g := gb332) (o := .cells #[.int .i64 a0_0, .slice A0_1 l0_1.length c0_1] 29 (0, 0)) (by exact kP BK332.out) hg (Kd.N_ne HO_10.out BK332.out (by decide)));have n4_ := aM (Kd.V_afterv (ok := (fun k_ => (w.heap.size ≤ k_) ∧ some k_ ≠ (.slice (some ad350) t338.length co31 : Value).ownBlock ∧ some k_ ≠ (.slice Ao33 t341.length co33 : Value).ownBlock ∧ some k_ ≠ (v345 : Value).ownBlock ∧ some k_ ≠ (.slice Ao54 t354.length co54 : Value).ownBlock ∧ k_ ≠ gb332)) (by (with_reducible repeat (first | apply Kd.V_alloc | apply Kd.V_drewN | apply Kd.V_drew));exact Kd.V_mono HL350_0.out (fun _ hk => ⟨⟨hk.1.1.1, ⟨hk.1.2, ⟨hk.1.1.2.2.1, ⟨hk.1.1.2.2.2.1, ⟨hk.2, hk.1.1.2.2.2.2⟩⟩⟩⟩⟩, hk.1.1.2.1⟩)) hg hat);have n5_ := aM (Kd.V_afterv (ok := (fun k_ => (w.heap.size ≤ k_) ∧ some k_ ≠ (.slice (some ad350) t338.length co31 : Value).ownBlock ∧ some k_ ≠ (.slice Ao33 t341.length co33 : Value).ownBlock ∧ some k_ ≠ (v345 : Value).ownBlock ∧ some k_ ≠ (.slice Ao54 t354.length co54 : Value).ownBlock ∧ k_ ≠ gb332)) (by (with_reducible repeat (first | apply Kd.V_alloc | apply Kd.V_drewN | apply Kd.V_drew));exact Kd.V_mono HL353_0.out (fun _ hk => ⟨⟨hk.1.1.1, ⟨hk.1.2, ⟨hk.1.1.2.2.1, ⟨hk.1.1.2.2.2.1, ⟨hk.2, hk.1.1.2.2.2.2⟩⟩⟩⟩⟩, hk.1.1.2.1⟩)) hg hat);have n6_ := aM (hb);have n7_ := aM (ho);clear HO_11 HO_12 HO_13 BK332 HL350_0 HL353_0 HB HO_10 HO356;have HO_11 := n0_;have HO_12 := n1_;have HO_13 := n2_;have BK332 := n3_;have HL350_0 := n4_;have HL353_0 := n5_;have HB := n6_;have HO359 := n7_;clear n0_ n1_ n2_ n3_ n4_ n5_ n6_ n7_ ho hb hg hat))
      go_roundg k2
      case measure => have := HJ4.out;have := HK2.out;omega
      case rel => exact ⟨(y357), (x14_2), (wrap64 (x15_2 + 1)), eF, eF, H', ⟨by have := HJ4.out;have := HK2.out;omega⟩, ⟨by (with_reducible repeat (first | apply Kd.N_alloc | apply Kd.N_drewN | apply Kd.N_drew));exact HO359.out⟩, ⟨by (with_reducible repeat (first | apply Kd.N_alloc | apply Kd.N_drewN | apply Kd.N_drew));exact Kd.N_mono HO_11.out (fun _ hk => ⟨hk.1.1, ⟨hk.2, ⟨hk.1.2.1, ⟨hk.1.2.2.1, hk.1.2.2.2.2⟩⟩⟩⟩)⟩, ⟨by (with_reducible repeat (first | apply Kd.N_alloc | apply Kd.N_drewN | apply Kd.N_drew));exact Kd.N_mono HO_12.out (fun _ hk => ⟨hk.1.1, ⟨hk.2, ⟨hk.1.2.1, ⟨hk.1.2.2.1, hk.1.2.2.2.2⟩⟩⟩⟩)⟩, ⟨by refine rP ?_;exact Kd.R_mono HO_13.out (fun _ hk => hk.1)⟩, ⟨by exact kP BK332.out⟩, ⟨by exact bB⟩⟩
     replace c42 := Bool.eq_false_iff.mpr c42
     subst c42
     rw [if_neg fF] at H
     replace H := bE H
     obtain ⟨t361, A550, H⟩ := H
     try dsimp only at H
     have A55 := Aside0.mk A550
     clear A550
     by_cases c56 : t361 < 0
     ·rw [if_pos c56] at H
      have c56b0 : decide (t361 < 0) = true := decide_eq_true c56
      clear c56
      simp only [Option.some.injEq, Prod.mk.injEq] at H
      obtain ⟨rfl, rfl⟩ := H
      try go_wp2
      have n0_ := aM (Kd.N_drew HO_10.out)
      have n1_ := aM (Kd.N_drew HO_11.out)
      have n2_ := aM (Kd.N_drew HO_12.out)
      have n3_ := aM (Kd.R_drew HO_13.out)
      have n4_ := aM (blk_drew BK332.out)
      have n5_ := aM (below_drew1 HB.out)
      clear HO_10 HO_11 HO_12 HO_13 BK332 HB
      have HO_10 := n0_
      have HO_11 := n1_
      have HO_12 := n2_
      have HO_13 := n3_
      have BK332 := n4_
      have HB := n5_
      clear n0_ n1_ n2_ n3_ n4_ n5_
      have p348 : 0 ≤ (x15_2 : Int) := oA
      have q348 : x15_2 < (l2.length : Int) := oA
      obtain ⟨ad348, e348, hx348_0⟩ := Kd.at_int HR2.out x15_2 p348 q348
      have hw348_0 := hx348_0
      cases e348
      replace hx348_0 := cB HB.out hx348_0
      replace p348 := eq_true p348
      replace q348 := eq_true q348
      refine start_ (n := 7) (S := fun w' => w'.cell? ⟨gb332, 0, none⟩ = some (.int .i64 a0_0) ∧ w'.cell? ⟨gb332, 1, none⟩ = some (.slice A0_1 l0_1.length c0_1) ∧ w'.cell? (ad348.add (x15_2).toNat) = some (.int .i64 (rd l2 x15_2))) (ds := []) (pT 0 7) kR rfl rfl ⟨(blk_cell BK332.out 0).trans rfl, (blk_cell BK332.out 1).trans rfl, (cB HB.out hw348_0 :)⟩ (fun hHeld => ?_)
      generalize wr.drew = w57 at HO_10 HO_11 HO_12 HO_13 BK332 HB hx348_0 hHeld ⊢
      refine pure_ (i := 1) (N := some 53) (v := ?_) (a' := ?_) (qT [0,1,1,5]) rfl rfl kR (fun _ _ _ h => h) (Or.inl ⟨by rfl, ?_⟩) ?_ ?_
      rotate_left
      ·exact gW
      rotate_left
      ·exact aP
      refine pure_ (i := 2) (N := some 54) (v := ?_) (a' := ?_) (qT [0,1,2,4]) rfl rfl kR (fun _ _ _ h => h) (Or.inl ⟨by rfl, ?_⟩) ?_ ?_
      rotate_left
      ·exact gW
      rotate_left
      ·exact aP
      refine pure_ (i := 3) (N := some 55) (v := ?_) (a' := ?_) (qT [0,1,3,3]) rfl rfl kR (fun _ _ _ h => h) (Or.inl ⟨by rfl, ?_⟩) ?_ ?_
      rotate_left
      ·exact gW
      rotate_left
      ·exact aP
      refine take_ (i := 0) (N := some 52) (v := ?_) (a' := ?_) (pT 4 3) rfl rfl kR (fun _ _ _ h => h) (Or.inl ⟨by rfl, ?_⟩) hHeld ?_ ?_
      rotate_left
      ·rintro w' ⟨s0, s1, s2⟩
       go_simp
       with_reducible rfl
      rotate_left
      ·exact aP
      refine take_ (i := 4) (N := some 56) (v := ?_) (a' := ?_) (pT 5 2) rfl rfl kR (fun _ _ _ h => h) (Or.inl ⟨by rfl, ?_⟩) hHeld ?_ ?_
      rotate_left
      ·rintro w' ⟨s0, s1, s2⟩
       go_simp
       with_reducible rfl
      rotate_left
      ·exact aP
      refine one_ (i := 5) (N := some 57) (pT 6 1) rfl rfl kR (by decide) (fun K hK => ?_)
      refine goes_ Tryd.func50 kR rfl #[.agg #[.int .i64 a0_0, .slice A0_1 l0_1.length c0_1], .int .i64 (rd l2 x15_2)] (by rfl) rfl rfl mM ?_
      with_reducible refine (spec_l2Node.calls a0_0 _ _ l0_1 (rd l2 x15_2) true _ ?side1 ?side2 A37.out).mono ?_
      (case side1 => exact cP (Kd.C_below HR0_1.out HB.out))
      (case side2 => exact HC0_1.out)
      rintro e w58 ⟨rfl, hb⟩
      refine ⟨_, rfl, ?_⟩
      have n0_ := aM (Kd.N_below (by exact uP HO_10.out) hb)
      have n1_ := aM (Kd.N_below (by exact uP HO_11.out) hb)
      have n2_ := aM (Kd.N_below (by exact uP HO_12.out) hb)
      have n3_ := aM (Kd.R_below (by exact rP HO_13.out) hb)
      have n4_ := aM (kB hb BK332.out)
      have n5_ := aM (below_step (by exact bB) hb)
      clear HO_10 HO_11 HO_12 HO_13 BK332 HB
      have HO_10 := n0_
      have HO_11 := n1_
      have HO_12 := n2_
      have HO_13 := n3_
      have BK332 := n4_
      have HB := n5_
      clear n0_ n1_ n2_ n3_ n4_ n5_
      (try clear hb)
      (try clear hb2)
      (try clear hk)
      (try clear hi)
      refine hK.out _ _ ⟨(blk_cell BK332.out 0).trans rfl, (blk_cell BK332.out 1).trans rfl, (cB HB.out hw348_0 :)⟩ (fun hHeld => ?_)
      clear hK K
      refine norm_ (a' := ?_) ?_ ?_
      rotate_left
      ·show Act.put _ (some 57) _ = _
       simp only [Act.put, List.setIfInBounds_toArray, List.set_cons_zero, List.set_cons_succ, i64_w, i32_w]
       rfl
      refine pure_ (i := 6) (N := some 58) (v := ?_) (a' := ?_) (pT 7 0) rfl rfl kR (fun _ _ _ h => h) (Or.inl ⟨by rfl, ?_⟩) ?_ ?_
      rotate_left
      ·exact gW
      rotate_left
      ·exact aP
      refine done_ kR ?_
      try go_wp2
      have n0_ := aM (Kd.N_drew HO_10.out)
      have n1_ := aM (Kd.N_drew HO_11.out)
      have n2_ := aM (Kd.N_drew HO_12.out)
      have n3_ := aM (Kd.R_drew HO_13.out)
      have n4_ := aM (blk_drew BK332.out)
      have n5_ := aM (below_drew1 HB.out)
      clear HO_10 HO_11 HO_12 HO_13 BK332 HB
      have HO_10 := n0_
      have HO_11 := n1_
      have HO_12 := n2_
      have HO_13 := n3_
      have BK332 := n4_
      have HB := n5_
      clear n0_ n1_ n2_ n3_ n4_ n5_
      have p350 : 0 ≤ (x14_2 : Int) := oA
      have q350 : x14_2 < (t338.length : Int) := oA
      obtain ⟨ad350, A350_0, c350_0, e350, hx350_0, hl350_0, hi350_0⟩ := at_L2 (Kd.N_reads' HO_11.out).2.2 x14_2 p350 q350
      cases e350
      obtain ⟨ce350, hce350, hMe350, hcc350⟩ := Kd.N_get HO_11.out [] x14_2 p350 (by first | exact q350 | exact oA | (have e_ := (Kd.N_reads' HO_11.out).1;omega))
      obtain ⟨ua350_0, uc350_0, rfl, ul350_0, ge350_0⟩ := Kd.FK_slice_open hMe350
      have hv350_0 := hcc350 0 _ rfl
      rw [Nat.add_zero, show ((Kd.slice 3 (Kd.int .i64))).sz = 1 from rfl, Nat.mul_one] at hv350_0
      replace hv350_0 := Option.some.inj (hv350_0.symm.trans hx350_0)
      injection hv350_0 with hva_ hvn_ hvc_
      rw [hva_] at ge350_0
      rw [hvc_] at ul350_0
      have HL350_0 := aM (show Kd.V (Kd.int .i64) 3 _ w.heap.size _ _ (rd_L2 t338 x14_2) from Kd.V_mk ul350_0 ge350_0)
      clear hva_ hvn_ hvc_ ge350_0 ul350_0 hcc350 hce350
      have HR350_0 := Aside0.mk hi350_0
      have HC350_0 := Aside0.mk hl350_0
      clear hi350_0 hl350_0
      replace p350 := eq_true p350
      replace q350 := eq_true q350
      have p351 : 0 ≤ (x15_2 : Int) := oA
      have q351 : x15_2 < (l2.length : Int) := oA
      obtain ⟨ad351, e351, hx351_0⟩ := Kd.at_int HR2.out x15_2 p351 q351
      have hw351_0 := hx351_0
      obtain rfl : ad348 = ad351 := (by injection e351)
      replace hx351_0 := cB HB.out hx351_0
      replace p351 := eq_true p351
      replace q351 := eq_true q351
      refine start_ (n := 10) (S := fun w' => w'.cell? (ad350.add (x14_2).toNat) = some (.slice A350_0 (rd_L2 t338 x14_2).length c350_0) ∧ w'.cell? (ad348.add (x15_2).toNat) = some (.int .i64 (rd l2 x15_2))) (ds := []) (pT 0 10) kR rfl rfl ⟨hx350_0, (cB HB.out hw351_0 :)⟩ (fun hHeld => ?_);refine with_tabW spec_PlayAttacks.tab12 spec_PlayAttacks.bits12 (fun HT_ HW_ => ?_)
      generalize w58.drew = w59 at HO_10 HO_11 HO_12 HO_13 BK332 HB HL350_0 HR350_0 hx350_0 hx351_0 hHeld ⊢
      refine pure_ (i := 0) (N := some 60) (v := ?_) (a' := ?_) (pT 1 9) rfl rfl (any_of HT_.out kR) (fun _ _ _ h => h) (Or.inl ⟨by rfl, ?_⟩) ?_ ?_
      rotate_left
      ·exact gW
      rotate_left
      ·exact aP
      refine pure_ (i := 1) (N := some 61) (v := ?_) (a' := ?_) (pT 2 8) rfl rfl (any_of HT_.out kR) (fun _ _ _ h => h) (Or.inl ⟨by rfl, ?_⟩) ?_ ?_
      rotate_left
      ·exact gW
      rotate_left
      ·exact aP
      refine pure_ (i := 2) (N := some 62) (v := ?_) (a' := ?_) (pT 3 7) rfl rfl (any_of HT_.out kR) (fun _ _ _ h => h) (Or.inl ⟨by rfl, ?_⟩) ?_ ?_
      rotate_left
      ·exact gW
      rotate_left
      ·exact aP
      refine pure_ (i := 4) (N := some 64) (v := ?_) (a' := ?_) (qT [3,1,1,5]) rfl rfl (any_of HT_.out kR) (fun _ _ _ h => h) (Or.inl ⟨by rfl, ?_⟩) ?_ ?_
      rotate_left
      ·exact gW
      rotate_left
      ·exact aP
      refine pure_ (i := 5) (N := some 65) (v := ?_) (a' := ?_) (qT [3,1,2,4]) rfl rfl (any_of HT_.out kR) (fun _ _ _ h => h) (Or.inl ⟨by rfl, ?_⟩) ?_ ?_
      rotate_left
      ·exact gW
      rotate_left
      ·exact aP
      refine pure_ (i := 6) (N := some 66) (v := ?_) (a' := ?_) (qT [3,1,3,3]) rfl rfl (any_of HT_.out kR) (fun _ _ _ h => h) (Or.inl ⟨by rfl, ?_⟩) ?_ ?_
      rotate_left
      ·exact gW
      rotate_left
      ·exact aP
      refine take_ (i := 3) (N := some 63) (v := ?_) (a' := ?_) (pT 7 3) rfl rfl (take_ofW HT_.out HW_.out kR) (fun _ _ _ h => h) (Or.inl ⟨by rfl, ?_⟩) hHeld ?_ ?_
      rotate_left
      ·rintro w' ⟨s0, s1⟩
       go_simp
       with_reducible rfl
      rotate_left
      ·exact aP
      refine take_ (i := 7) (N := some 67) (v := ?_) (a' := ?_) (pT 8 2) rfl rfl (take_ofW HT_.out HW_.out kR) (fun _ _ _ h => h) (Or.inl ⟨by rfl, ?_⟩) hHeld ?_ ?_
      rotate_left
      ·rintro w' ⟨s0, s1⟩
       go_simp
       with_reducible rfl
      rotate_left
      ·exact aP
      refine one_ (i := 8) (N := some 68) (pT 9 1) rfl rfl (one_of HT_.out kR) (by decide) (fun K hK => ?_)
      refine goes_ Tryd.func43 kR rfl #[.slice A350_0 (rd_L2 t338 x14_2).length c350_0, .int .i64 (rd l2 x15_2)] (by rfl) rfl rfl mM ?_
      with_reducible refine (spec_l1Has.calls k2 _ _ (rd_L2 t338 x14_2) (rd l2 x15_2) false _ ?side1 ?side2 A41.out).mono ?_
      (case side1 => exact cP (by repeat (first | (with_reducible exact HR350_0.out) | (with_reducible refine Kd.C_alloc ?_ _) | (with_reducible refine Kd.C_drewN ?_ _) | (with_reducible refine Kd.C_drew ?_) | exact HR350_0.out)))
      (case side2 => exact HC350_0.out)
      rintro e w' ⟨rfl, ⟨nd, rfl⟩⟩
      refine ⟨_, rfl, ?_⟩
      refine hK.out _ _ ⟨hHeld.1, (cB HB.out hw351_0 :)⟩ (fun hHeld => ?_)
      clear hK K
      refine norm_ (a' := ?_) ?_ ?_
      rotate_left
      ·show Act.put _ (some 68) _ = _
       simp only [Act.put, List.setIfInBounds_toArray, List.set_cons_zero, List.set_cons_succ, i64_w, i32_w]
       rfl
      refine pure_ (i := 9) (N := some 69) (v := ?_) (a' := ?_) (pT 10 0) rfl rfl (any_of HT_.out kR) (fun _ _ _ h => h) (Or.inl ⟨by rfl, ?_⟩) ?_ ?_
      rotate_left
      ·exact gW
      rotate_left
      ·exact aP
      refine done_ (done_of HT_.out kR) ?_
      have p360 : 0 ≤ (x15_2 : Int) := oA
      have q360 : x15_2 < (l2.length : Int) := oA
      obtain ⟨ad360, e360, hx360_0⟩ := Kd.at_int HR2.out x15_2 p360 q360
      obtain rfl : ad348 = ad360 := (by injection e360)
      replace hx360_0 := cB HB.out hx360_0
      replace p360 := eq_true p360
      replace q360 := eq_true q360
      obtain ⟨Ao60, co60, eo60⟩ := Kd.R_slice HO_13.out
      subst eo60
      try go_wp2_with (first | ((with_reducible refine gate_callee (f := 51) rfl ?_);refine goesL_ (some 77) rfl rfl Tryd.func51 kR rfl #[.slice Ao33 t341.length co33, .slice Ao60 t344.length co60, .int .i64 x14_2, .int .i64 (rd l2 x15_2)] rfl mM ?_;(with_reducible refine (spec_l10Best.calls k2 _ _ t341 _ _ t344 x14_2 (rd l2 x15_2) t361 _ ?side1 ?side2 ?side3 ?side4 A55.out).mono ?_);(case side1 => exact cP (Kd.N_reads' HO_12.out).2.2);(case side2 => exact (Kd.N_reads' HO_12.out).2.1);(case side3 => exact cP (Kd.R_reads' HO_13.out).2.2);(case side4 => exact (Kd.R_reads' HO_13.out).2.1);rintro e w' ⟨rfl, ⟨nd, rfl⟩⟩;refine ⟨_, rfl, ?_⟩))
      go_ret2
      exact ⟨_, eW, by (with_reducible repeat (first | apply Kd.N_alloc | apply Kd.N_drewN | apply Kd.N_drew));exact Kd.N_mono HO_10.out (fun _ hk => hk.1), by exact bB⟩
     rw [if_neg c56] at H
     have c56b0 : decide (t361 < 0) = false := decide_eq_false c56
     clear c56
     by_cases c61 : 0 ≤ t361
     rotate_left
     ·rw [if_neg c61] at H
      exact absurd H (by simp)
     rw [if_pos c61] at H
     have c61b0 : decide (0 ≤ t361) = true := decide_eq_true c61
     clear c61
     by_cases c62 : t361 < (t338.length : Int)
     rotate_left
     ·rw [if_neg c62] at H
      exact absurd H (by simp)
     rw [if_pos c62] at H
     have c62b0 : decide (t361 < (t338.length : Int)) = true := decide_eq_true c62
     clear c62
     replace H := bE H
     obtain ⟨t363, A630, H⟩ := H
     try dsimp only at H
     have A63 := Aside0.mk A630
     clear A630
     by_cases c64 : x10_2.length < 5864062014805
     rotate_left
     ·rw [if_neg c64] at H
      exact absurd H (by simp)
     rw [if_pos c64] at H
     have LMc64 := Aside0.mk c64
     clear c64
     obtain ⟨y366, hy366⟩ : ∃ y_ : List (List Int), y_ = (x10_2 ++ [t363]) := ⟨_, rfl⟩
     replace H : (spec_PlayAttacks.l0 k2 l2 y366 t338 t341 t344 t361 (wrap64 (x15_2 + 1)) a0_0 l0_1) = some (r1, r2) := by first | (rw [hy366];with_reducible exact H) | (rw [hy366];with_reducible exact hB H) | with_reducible exact hB H | with_reducible exact H | (rw [hy366];exact H) | exact H
     have Ny366 := Aside0.mk hy366
     clear hy366
     have H' := Aside0.mk H
     clear H
     try go_wp2
     have n0_ := aM (Kd.N_drew HO_10.out)
     have n1_ := aM (Kd.N_drew HO_11.out)
     have n2_ := aM (Kd.N_drew HO_12.out)
     have n3_ := aM (Kd.R_drew HO_13.out)
     have n4_ := aM (blk_drew BK332.out)
     have n5_ := aM (below_drew1 HB.out)
     clear HO_10 HO_11 HO_12 HO_13 BK332 HB
     have HO_10 := n0_
     have HO_11 := n1_
     have HO_12 := n2_
     have HO_13 := n3_
     have BK332 := n4_
     have HB := n5_
     clear n0_ n1_ n2_ n3_ n4_ n5_
     have p348 : 0 ≤ (x15_2 : Int) := oA
     have q348 : x15_2 < (l2.length : Int) := oA
     obtain ⟨ad348, e348, hx348_0⟩ := Kd.at_int HR2.out x15_2 p348 q348
     have hw348_0 := hx348_0
     cases e348
     replace hx348_0 := cB HB.out hx348_0
     replace p348 := eq_true p348
     replace q348 := eq_true q348
     refine start_ (n := 7) (S := fun w' => w'.cell? ⟨gb332, 0, none⟩ = some (.int .i64 a0_0) ∧ w'.cell? ⟨gb332, 1, none⟩ = some (.slice A0_1 l0_1.length c0_1) ∧ w'.cell? (ad348.add (x15_2).toNat) = some (.int .i64 (rd l2 x15_2))) (ds := []) (pT 0 7) kR rfl rfl ⟨(blk_cell BK332.out 0).trans rfl, (blk_cell BK332.out 1).trans rfl, (cB HB.out hw348_0 :)⟩ (fun hHeld => ?_)
     generalize wr.drew = w65 at HO_10 HO_11 HO_12 HO_13 BK332 HB hx348_0 hHeld ⊢
     refine pure_ (i := 1) (N := some 53) (v := ?_) (a' := ?_) (qT [0,1,1,5]) rfl rfl kR (fun _ _ _ h => h) (Or.inl ⟨by rfl, ?_⟩) ?_ ?_
     rotate_left
     ·exact gW
     rotate_left
     ·exact aP
     refine pure_ (i := 2) (N := some 54) (v := ?_) (a' := ?_) (qT [0,1,2,4]) rfl rfl kR (fun _ _ _ h => h) (Or.inl ⟨by rfl, ?_⟩) ?_ ?_
     rotate_left
     ·exact gW
     rotate_left
     ·exact aP
     refine pure_ (i := 3) (N := some 55) (v := ?_) (a' := ?_) (qT [0,1,3,3]) rfl rfl kR (fun _ _ _ h => h) (Or.inl ⟨by rfl, ?_⟩) ?_ ?_
     rotate_left
     ·exact gW
     rotate_left
     ·exact aP
     refine take_ (i := 0) (N := some 52) (v := ?_) (a' := ?_) (pT 4 3) rfl rfl kR (fun _ _ _ h => h) (Or.inl ⟨by rfl, ?_⟩) hHeld ?_ ?_
     rotate_left
     ·rintro w' ⟨s0, s1, s2⟩
      go_simp
      with_reducible rfl
     rotate_left
     ·exact aP
     refine take_ (i := 4) (N := some 56) (v := ?_) (a' := ?_) (pT 5 2) rfl rfl kR (fun _ _ _ h => h) (Or.inl ⟨by rfl, ?_⟩) hHeld ?_ ?_
     rotate_left
     ·rintro w' ⟨s0, s1, s2⟩
      go_simp
      with_reducible rfl
     rotate_left
     ·exact aP
     refine one_ (i := 5) (N := some 57) (pT 6 1) rfl rfl kR (by decide) (fun K hK => ?_)
     refine goes_ Tryd.func50 kR rfl #[.agg #[.int .i64 a0_0, .slice A0_1 l0_1.length c0_1], .int .i64 (rd l2 x15_2)] (by rfl) rfl rfl mM ?_
     with_reducible refine (spec_l2Node.calls a0_0 _ _ l0_1 (rd l2 x15_2) true _ ?side1 ?side2 A37.out).mono ?_
     (case side1 => exact cP (Kd.C_below HR0_1.out HB.out))
     (case side2 => exact HC0_1.out)
     rintro e w66 ⟨rfl, hb⟩
     refine ⟨_, rfl, ?_⟩
     have n0_ := aM (Kd.N_below (by exact uP HO_10.out) hb)
     have n1_ := aM (Kd.N_below (by exact uP HO_11.out) hb)
     have n2_ := aM (Kd.N_below (by exact uP HO_12.out) hb)
     have n3_ := aM (Kd.R_below (by exact rP HO_13.out) hb)
     have n4_ := aM (kB hb BK332.out)
     have n5_ := aM (below_step (by exact bB) hb)
     clear HO_10 HO_11 HO_12 HO_13 BK332 HB
     have HO_10 := n0_
     have HO_11 := n1_
     have HO_12 := n2_
     have HO_13 := n3_
     have BK332 := n4_
     have HB := n5_
     clear n0_ n1_ n2_ n3_ n4_ n5_
     (try clear hb)
     (try clear hb2)
     (try clear hk)
     (try clear hi)
     refine hK.out _ _ ⟨(blk_cell BK332.out 0).trans rfl, (blk_cell BK332.out 1).trans rfl, (cB HB.out hw348_0 :)⟩ (fun hHeld => ?_)
     clear hK K
     refine norm_ (a' := ?_) ?_ ?_
     rotate_left
     ·show Act.put _ (some 57) _ = _
      simp only [Act.put, List.setIfInBounds_toArray, List.set_cons_zero, List.set_cons_succ, i64_w, i32_w]
      rfl
     refine pure_ (i := 6) (N := some 58) (v := ?_) (a' := ?_) (pT 7 0) rfl rfl kR (fun _ _ _ h => h) (Or.inl ⟨by rfl, ?_⟩) ?_ ?_
     rotate_left
     ·exact gW
     rotate_left
     ·exact aP
     refine done_ kR ?_
     try go_wp2
     have n0_ := aM (Kd.N_drew HO_10.out)
     have n1_ := aM (Kd.N_drew HO_11.out)
     have n2_ := aM (Kd.N_drew HO_12.out)
     have n3_ := aM (Kd.R_drew HO_13.out)
     have n4_ := aM (blk_drew BK332.out)
     have n5_ := aM (below_drew1 HB.out)
     clear HO_10 HO_11 HO_12 HO_13 BK332 HB
     have HO_10 := n0_
     have HO_11 := n1_
     have HO_12 := n2_
     have HO_13 := n3_
     have BK332 := n4_
     have HB := n5_
     clear n0_ n1_ n2_ n3_ n4_ n5_
     have p350 : 0 ≤ (x14_2 : Int) := oA
     have q350 : x14_2 < (t338.length : Int) := oA
     obtain ⟨ad350, A350_0, c350_0, e350, hx350_0, hl350_0, hi350_0⟩ := at_L2 (Kd.N_reads' HO_11.out).2.2 x14_2 p350 q350
     cases e350
     obtain ⟨ce350, hce350, hMe350, hcc350⟩ := Kd.N_get HO_11.out [] x14_2 p350 (by first | exact q350 | exact oA | (have e_ := (Kd.N_reads' HO_11.out).1;omega))
     obtain ⟨ua350_0, uc350_0, rfl, ul350_0, ge350_0⟩ := Kd.FK_slice_open hMe350
     have hv350_0 := hcc350 0 _ rfl
     rw [Nat.add_zero, show ((Kd.slice 3 (Kd.int .i64))).sz = 1 from rfl, Nat.mul_one] at hv350_0
     replace hv350_0 := Option.some.inj (hv350_0.symm.trans hx350_0)
     injection hv350_0 with hva_ hvn_ hvc_
     rw [hva_] at ge350_0
     rw [hvc_] at ul350_0
     have HL350_0 := aM (show Kd.V (Kd.int .i64) 3 _ w.heap.size _ _ (rd_L2 t338 x14_2) from Kd.V_mk ul350_0 ge350_0)
     clear hva_ hvn_ hvc_ ge350_0 ul350_0 hcc350 hce350
     have HR350_0 := Aside0.mk hi350_0
     have HC350_0 := Aside0.mk hl350_0
     clear hi350_0 hl350_0
     replace p350 := eq_true p350
     replace q350 := eq_true q350
     have p351 : 0 ≤ (x15_2 : Int) := oA
     have q351 : x15_2 < (l2.length : Int) := oA
     obtain ⟨ad351, e351, hx351_0⟩ := Kd.at_int HR2.out x15_2 p351 q351
     have hw351_0 := hx351_0
     obtain rfl : ad348 = ad351 := (by injection e351)
     replace hx351_0 := cB HB.out hx351_0
     replace p351 := eq_true p351
     replace q351 := eq_true q351
     refine start_ (n := 10) (S := fun w' => w'.cell? (ad350.add (x14_2).toNat) = some (.slice A350_0 (rd_L2 t338 x14_2).length c350_0) ∧ w'.cell? (ad348.add (x15_2).toNat) = some (.int .i64 (rd l2 x15_2))) (ds := []) (pT 0 10) kR rfl rfl ⟨hx350_0, (cB HB.out hw351_0 :)⟩ (fun hHeld => ?_);refine with_tabW spec_PlayAttacks.tab12 spec_PlayAttacks.bits12 (fun HT_ HW_ => ?_)
     generalize w66.drew = w67 at HO_10 HO_11 HO_12 HO_13 BK332 HB HL350_0 HR350_0 hx350_0 hx351_0 hHeld ⊢
     refine pure_ (i := 0) (N := some 60) (v := ?_) (a' := ?_) (pT 1 9) rfl rfl (any_of HT_.out kR) (fun _ _ _ h => h) (Or.inl ⟨by rfl, ?_⟩) ?_ ?_
     rotate_left
     ·exact gW
     rotate_left
     ·exact aP
     refine pure_ (i := 1) (N := some 61) (v := ?_) (a' := ?_) (pT 2 8) rfl rfl (any_of HT_.out kR) (fun _ _ _ h => h) (Or.inl ⟨by rfl, ?_⟩) ?_ ?_
     rotate_left
     ·exact gW
     rotate_left
     ·exact aP
     refine pure_ (i := 2) (N := some 62) (v := ?_) (a' := ?_) (pT 3 7) rfl rfl (any_of HT_.out kR) (fun _ _ _ h => h) (Or.inl ⟨by rfl, ?_⟩) ?_ ?_
     rotate_left
     ·exact gW
     rotate_left
     ·exact aP
     refine pure_ (i := 4) (N := some 64) (v := ?_) (a' := ?_) (qT [3,1,1,5]) rfl rfl (any_of HT_.out kR) (fun _ _ _ h => h) (Or.inl ⟨by rfl, ?_⟩) ?_ ?_
     rotate_left
     ·exact gW
     rotate_left
     ·exact aP
     refine pure_ (i := 5) (N := some 65) (v := ?_) (a' := ?_) (qT [3,1,2,4]) rfl rfl (any_of HT_.out kR) (fun _ _ _ h => h) (Or.inl ⟨by rfl, ?_⟩) ?_ ?_
     rotate_left
     ·exact gW
     rotate_left
     ·exact aP
     refine pure_ (i := 6) (N := some 66) (v := ?_) (a' := ?_) (qT [3,1,3,3]) rfl rfl (any_of HT_.out kR) (fun _ _ _ h => h) (Or.inl ⟨by rfl, ?_⟩) ?_ ?_
     rotate_left
     ·exact gW
     rotate_left
     ·exact aP
     refine take_ (i := 3) (N := some 63) (v := ?_) (a' := ?_) (pT 7 3) rfl rfl (take_ofW HT_.out HW_.out kR) (fun _ _ _ h => h) (Or.inl ⟨by rfl, ?_⟩) hHeld ?_ ?_
     rotate_left
     ·rintro w' ⟨s0, s1⟩
      go_simp
      with_reducible rfl
     rotate_left
     ·exact aP
     refine take_ (i := 7) (N := some 67) (v := ?_) (a' := ?_) (pT 8 2) rfl rfl (take_ofW HT_.out HW_.out kR) (fun _ _ _ h => h) (Or.inl ⟨by rfl, ?_⟩) hHeld ?_ ?_
     rotate_left
     ·rintro w' ⟨s0, s1⟩
      go_simp
      with_reducible rfl
     rotate_left
     ·exact aP
     refine one_ (i := 8) (N := some 68) (pT 9 1) rfl rfl (one_of HT_.out kR) (by decide) (fun K hK => ?_)
     refine goes_ Tryd.func43 kR rfl #[.slice A350_0 (rd_L2 t338 x14_2).length c350_0, .int .i64 (rd l2 x15_2)] (by rfl) rfl rfl mM ?_
     with_reducible refine (spec_l1Has.calls k2 _ _ (rd_L2 t338 x14_2) (rd l2 x15_2) false _ ?side1 ?side2 A41.out).mono ?_
     (case side1 => exact cP (by repeat (first | (with_reducible exact HR350_0.out) | (with_reducible refine Kd.C_alloc ?_ _) | (with_reducible refine Kd.C_drewN ?_ _) | (with_reducible refine Kd.C_drew ?_) | exact HR350_0.out)))
     (case side2 => exact HC350_0.out)
     rintro e w' ⟨rfl, ⟨nd, rfl⟩⟩
     refine ⟨_, rfl, ?_⟩
     refine hK.out _ _ ⟨hHeld.1, (cB HB.out hw351_0 :)⟩ (fun hHeld => ?_)
     clear hK K
     refine norm_ (a' := ?_) ?_ ?_
     rotate_left
     ·show Act.put _ (some 68) _ = _
      simp only [Act.put, List.setIfInBounds_toArray, List.set_cons_zero, List.set_cons_succ, i64_w, i32_w]
      rfl
     refine pure_ (i := 9) (N := some 69) (v := ?_) (a' := ?_) (pT 10 0) rfl rfl (any_of HT_.out kR) (fun _ _ _ h => h) (Or.inl ⟨by rfl, ?_⟩) ?_ ?_
     rotate_left
     ·exact gW
     rotate_left
     ·exact aP
     refine done_ (done_of HT_.out kR) ?_
     have p360 : 0 ≤ (x15_2 : Int) := oA
     have q360 : x15_2 < (l2.length : Int) := oA
     obtain ⟨ad360, e360, hx360_0⟩ := Kd.at_int HR2.out x15_2 p360 q360
     obtain rfl : ad348 = ad360 := (by injection e360)
     replace hx360_0 := cB HB.out hx360_0
     replace p360 := eq_true p360
     replace q360 := eq_true q360
     obtain ⟨Ao68, co68, eo68⟩ := Kd.R_slice HO_13.out
     subst eo68
     try go_wp2_with (first | ((with_reducible refine gate_callee (f := 51) rfl ?_);refine goesL_ (some 77) rfl rfl Tryd.func51 kR rfl #[.slice Ao33 t341.length co33, .slice Ao68 t344.length co68, .int .i64 x14_2, .int .i64 (rd l2 x15_2)] rfl mM ?_;(with_reducible refine (spec_l10Best.calls k2 _ _ t341 _ _ t344 x14_2 (rd l2 x15_2) t361 _ ?side1 ?side2 ?side3 ?side4 A55.out).mono ?_);(case side1 => exact cP (Kd.N_reads' HO_12.out).2.2);(case side2 => exact (Kd.N_reads' HO_12.out).2.1);(case side3 => exact cP (Kd.R_reads' HO_13.out).2.2);(case side4 => exact (Kd.R_reads' HO_13.out).2.1);rintro e w' ⟨rfl, ⟨nd, rfl⟩⟩;refine ⟨_, rfl, ?_⟩;have p362 : 0 ≤ (t361 : Int) := oA;have q362 : t361 < (t338.length : Int) := oA;obtain ⟨ad362, A362_0, c362_0, e362, hx362_0, hl362_0, hi362_0⟩ := at_L2 (Kd.N_reads' HO_11.out).2.2 t361 p362 q362;obtain rfl : ad350 = ad362 := (by injection e362);obtain ⟨ce362, hce362, hMe362, hcc362⟩ := Kd.N_get HO_11.out [] t361 p362 (by first | exact q362 | exact oA | (have e_ := (Kd.N_reads' HO_11.out).1;omega));obtain ⟨ua362_0, uc362_0, rfl, ul362_0, ge362_0⟩ := Kd.FK_slice_open hMe362;have hv362_0 := hcc362 0 _ rfl;rw [Nat.add_zero, show ((Kd.slice 3 (Kd.int .i64))).sz = 1 from rfl, Nat.mul_one] at hv362_0;replace hv362_0 := Option.some.inj (hv362_0.symm.trans hx362_0);injection hv362_0 with hva_ hvn_ hvc_;rw [hva_] at ge362_0;rw [hvc_] at ul362_0;have HL362_0 := aM (show Kd.V (Kd.int .i64) 3 _ w.heap.size _ _ (rd_L2 t338 t361) from Kd.V_mk ul362_0 ge362_0);clear hva_ hvn_ hvc_ ge362_0 ul362_0 hcc362 hce362;have HR362_0 := Aside0.mk hi362_0;have HC362_0 := Aside0.mk hl362_0;clear hi362_0 hl362_0;replace p362 := eq_true p362;replace q362 := eq_true q362) | ((with_reducible refine gate_callee (f := 52) rfl ?_);refine goesL_ (some 86) rfl rfl Tryd.func52 kR rfl #[.slice A362_0 (rd_L2 t338 t361).length c362_0] rfl mM ?_;(with_reducible refine (spec_l1Own.calls _ _ (rd_L2 t338 t361) t363 _ ?side1 ?side2 A63.out).mono ?_);(case side1 => exact cP (by repeat (first | (with_reducible exact HR362_0.out) | (with_reducible refine Kd.C_alloc ?_ _) | (with_reducible refine Kd.C_drewN ?_ _) | (with_reducible refine Kd.C_drew ?_) | exact HR362_0.out)));(case side2 => exact HC362_0.out);rintro e w69 ⟨v364, rfl, ho0, hb⟩;refine ⟨_, rfl, ?_⟩;have n0_ := aM (Kd.N_elder' (by exact uP HO_10.out) (Kd.R_base ho0) hb);have n1_ := aM (Kd.N_elder' (by exact uP HO_11.out) (Kd.R_base ho0) hb);have n2_ := aM (Kd.N_elder' (by exact uP HO_12.out) (Kd.R_base ho0) hb);have n3_ := aM (Kd.R_elder' (by exact rP HO_13.out) (Kd.R_base ho0) hb);have n4_ := aM (Kd.V_elder' (by (with_reducible repeat (first | apply Kd.V_alloc | apply Kd.V_drewN | apply Kd.V_drew));exact HL350_0.out) (Kd.R_base ho0) hb);have n5_ := aM (Kd.V_elder' (by (with_reducible repeat (first | apply Kd.V_alloc | apply Kd.V_drewN | apply Kd.V_drew));exact HL362_0.out) (Kd.R_base ho0) hb);have n6_ := aM (Kd.R_lower (Kd.R_new' (Kd.R_newM (M := fun k_ => (w.heap.size ≤ k_)) ho0 (below_size (by exact bB)) (fun k_ h_ => h_)) (Kd.R_lt (by exact rP HO_13.out))) (below_size (by exact bB)));have n7_ := aM (kB hb BK332.out);have n8_ := aM (Kd.C_below (by repeat (first | (with_reducible exact HR350_0.out) | (with_reducible refine Kd.C_alloc ?_ _) | (with_reducible refine Kd.C_drewN ?_ _) | (with_reducible refine Kd.C_drew ?_) | exact HR350_0.out)) hb);have n9_ := aM (Kd.C_below (by repeat (first | (with_reducible exact HR362_0.out) | (with_reducible refine Kd.C_alloc ?_ _) | (with_reducible refine Kd.C_drewN ?_ _) | (with_reducible refine Kd.C_drew ?_) | exact HR362_0.out)) hb);have n10_ := aM (below_step (by exact bB) hb);clear HO_10 HO_11 HO_12 HO_13 HL350_0 HL362_0 BK332 HR350_0 HR362_0 HB;have HO_10 := n0_;have HO_11 := n1_;have HO_12 := n2_;have HO_13 := n3_;have HL350_0 := n4_;have HL362_0 := n5_;have HO365 := n6_;have BK332 := n7_;have HR350_0 := n8_;have HR362_0 := n9_;have HB := n10_;clear n0_ n1_ n2_ n3_ n4_ n5_ n6_ n7_ n8_ n9_ n10_;(try clear hb);(try clear ho0);obtain ⟨Ao71, co71, eo71⟩ := Kd.R_slice HO365.out;subst eo71) | ((with_reducible refine gate_builtin (b := .append) (xs := #[.tmp 81, .tmp 87]) rfl ?_);(try (refine gate_guard (by rfl) ?_;dsimp only));at_builtin;refine Kd.N_append (Kd.slice 3 (Kd.int .i64)) (w0 := w) w.heap.size rfl (.tmp 81) (.tmp 87) 26 36 (.slice none 0 0) 24 rfl Tryd.underlying26 info36 rfl (by decide) (by omega) u10 x10_2 t363 [.slice Ao71 t363.length co71] (fun k_ => (w.heap.size ≤ k_) ∧ some k_ ≠ (.slice (some ad350) t338.length co31 : Value).ownBlock ∧ some k_ ≠ (.slice Ao33 t341.length co33 : Value).ownBlock ∧ some k_ ≠ (.slice Ao68 t344.length co68 : Value).ownBlock ∧ k_ ≠ gb332) (fun k_ => ((fun k_ => (w.heap.size ≤ k_) ∧ some k_ ≠ (.slice (some ad350) t338.length co31 : Value).ownBlock ∧ some k_ ≠ (.slice Ao33 t341.length co33 : Value).ownBlock ∧ some k_ ≠ (.slice Ao68 t344.length co68 : Value).ownBlock ∧ k_ ≠ gb332)) k_ ∧ some k_ ≠ (u10 : Value).ownBlock) rfl rfl ?aP (fun _ hk => hk) ?aF ?aO ?aB ?aS ?aL ?_;(case aP => exact (Kd.FK_slice_mk (Kd.R_reads' (Kd.R_mono (ok' := (fun k_ => ((fun k_ => (w.heap.size ≤ k_) ∧ some k_ ≠ (.slice (some ad350) t338.length co31 : Value).ownBlock ∧ some k_ ≠ (.slice Ao33 t341.length co33 : Value).ownBlock ∧ some k_ ≠ (.slice Ao68 t344.length co68 : Value).ownBlock ∧ k_ ≠ gb332)) k_ ∧ some k_ ≠ (u10 : Value).ownBlock)) (Kd.R_types (Kd.R_apart' (Kd.R_apart' (Kd.R_apart' (HO365.out) (Kd.N_typed HO_11.out) (by decide)) (Kd.N_typed HO_12.out) (by decide)) (Kd.N_typed HO_10.out) (by decide)) BK332.out (by decide)) (fun k_ hk => ⟨⟨hk.1.1.1.1.1.1, ⟨hk.1.1.1.2, ⟨hk.1.1.2, ⟨hk.1.1.1.1.2, hk.2⟩⟩⟩⟩, hk.1.2⟩))).2.1 (Kd.R_F (Kd.R_mono (ok' := (fun k_ => ((fun k_ => (w.heap.size ≤ k_) ∧ some k_ ≠ (.slice (some ad350) t338.length co31 : Value).ownBlock ∧ some k_ ≠ (.slice Ao33 t341.length co33 : Value).ownBlock ∧ some k_ ≠ (.slice Ao68 t344.length co68 : Value).ownBlock ∧ k_ ≠ gb332)) k_ ∧ some k_ ≠ (u10 : Value).ownBlock)) (Kd.R_types (Kd.R_apart' (Kd.R_apart' (Kd.R_apart' (HO365.out) (Kd.N_typed HO_11.out) (by decide)) (Kd.N_typed HO_12.out) (by decide)) (Kd.N_typed HO_10.out) (by decide)) BK332.out (by decide)) (fun k_ hk => ⟨⟨hk.1.1.1.1.1.1, ⟨hk.1.1.1.2, ⟨hk.1.1.2, ⟨hk.1.1.1.1.2, hk.2⟩⟩⟩⟩, hk.1.2⟩)))));(case aB => exact (by exact bB));(case aF => exact (fun k_ hk => ⟨(Nat.le_trans (below_size (by exact bB)) hk), Kd.fresh' (Kd.N_lt (by exact uP HO_11.out)) k_ hk, Kd.fresh' (Kd.N_lt (by exact uP HO_12.out)) k_ hk, Kd.fresh' (Kd.R_lt (by exact rP HO_13.out)) k_ hk, Kd.freshB (g := gb332) (o := .cells #[.int .i64 a0_0, .slice A0_1 l0_1.length c0_1] 29 (0, 0)) (by exact kP BK332.out) k_ hk⟩));(case aO => exact (by (with_reducible repeat (first | apply Kd.N_alloc | apply Kd.N_drewN | apply Kd.N_drew));exact Kd.N_mono HO_10.out (fun _ hk => ⟨hk.1.1, ⟨hk.1.2.1, ⟨hk.1.2.2.1, ⟨hk.1.2.2.2.1, hk.1.2.2.2.2⟩⟩⟩⟩)));(case aS => exact (below_size (by exact bB)));(case aL => have := LMc64.out;omega);intro v367 w70 ho hb hg hat;rw [← Ny366.out] at ho;have n0_ := aM (Kd.N_afterv (ok := (fun k_ => (w.heap.size ≤ k_) ∧ some k_ ≠ (.slice Ao33 t341.length co33 : Value).ownBlock ∧ some k_ ≠ (.slice Ao68 t344.length co68 : Value).ownBlock ∧ some k_ ≠ (.slice Ao71 t363.length co71 : Value).ownBlock ∧ k_ ≠ gb332)) (by (with_reducible repeat (first | apply Kd.N_alloc | apply Kd.N_drewN | apply Kd.N_drew));exact Kd.N_mono HO_11.out (fun _ hk => ⟨⟨hk.1.1, ⟨hk.1.2.2.1, ⟨hk.1.2.2.2.1, ⟨hk.2, hk.1.2.2.2.2⟩⟩⟩⟩, hk.1.2.1⟩)) hg hat);have n1_ := aM (Kd.N_afterv (ok := (fun k_ => (w.heap.size ≤ k_) ∧ some k_ ≠ (.slice (some ad350) t338.length co31 : Value).ownBlock ∧ some k_ ≠ (.slice Ao68 t344.length co68 : Value).ownBlock ∧ some k_ ≠ (.slice Ao71 t363.length co71 : Value).ownBlock ∧ k_ ≠ gb332)) (by (with_reducible repeat (first | apply Kd.N_alloc | apply Kd.N_drewN | apply Kd.N_drew));exact Kd.N_mono HO_12.out (fun _ hk => ⟨⟨hk.1.1, ⟨hk.1.2.2.1, ⟨hk.1.2.2.2.1, ⟨hk.2, hk.1.2.2.2.2⟩⟩⟩⟩, hk.1.2.1⟩)) hg hat);have n2_ := aM (Kd.R_over' (by exact rP HO_13.out) (Kd.N_typed (by exact uP HO_10.out)) (by decide) hg);have n3_ := aM (blk_grown (g := gb332) (o := .cells #[.int .i64 a0_0, .slice A0_1 l0_1.length c0_1] 29 (0, 0)) (by exact kP BK332.out) hg (Kd.N_ne HO_10.out BK332.out (by decide)));have n4_ := aM (Kd.V_afterv (ok := (fun k_ => (w.heap.size ≤ k_) ∧ some k_ ≠ (.slice (some ad350) t338.length co31 : Value).ownBlock ∧ some k_ ≠ (.slice Ao33 t341.length co33 : Value).ownBlock ∧ some k_ ≠ (.slice Ao68 t344.length co68 : Value).ownBlock ∧ some k_ ≠ (.slice Ao71 t363.length co71 : Value).ownBlock ∧ k_ ≠ gb332)) (by (with_reducible repeat (first | apply Kd.V_alloc | apply Kd.V_drewN | apply Kd.V_drew));exact Kd.V_mono HL350_0.out (fun _ hk => ⟨⟨hk.1.1.1, ⟨hk.1.2, ⟨hk.1.1.2.2.1, ⟨hk.1.1.2.2.2.1, ⟨hk.2, hk.1.1.2.2.2.2⟩⟩⟩⟩⟩, hk.1.1.2.1⟩)) hg hat);have n5_ := aM (Kd.V_afterv (ok := (fun k_ => (w.heap.size ≤ k_) ∧ some k_ ≠ (.slice (some ad350) t338.length co31 : Value).ownBlock ∧ some k_ ≠ (.slice Ao33 t341.length co33 : Value).ownBlock ∧ some k_ ≠ (.slice Ao68 t344.length co68 : Value).ownBlock ∧ some k_ ≠ (.slice Ao71 t363.length co71 : Value).ownBlock ∧ k_ ≠ gb332)) (by (with_reducible repeat (first | apply Kd.V_alloc | apply Kd.V_drewN | apply Kd.V_drew));exact Kd.V_mono HL362_0.out (fun _ hk => ⟨⟨hk.1.1.1, ⟨hk.1.2, ⟨hk.1.1.2.2.1, ⟨hk.1.1.2.2.2.1, ⟨hk.2, hk.1.1.2.2.2.2⟩⟩⟩⟩⟩, hk.1.1.2.1⟩)) hg hat);have n6_ := aM (hb);have n7_ := aM (ho);clear HO_11 HO_12 HO_13 BK332 HL350_0 HL362_0 HB HO_10 HO365;have HO_11 := n0_;have HO_12 := n1_;have HO_13 := n2_;have BK332 := n3_;have HL350_0 := n4_;have HL362_0 := n5_;have HB := n6_;have HO368 := n7_;clear n0_ n1_ n2_ n3_ n4_ n5_ n6_ n7_ ho hb hg hat))
     go_roundg k2
     case measure => have := HJ4.out;have := HK2.out;omega
     case rel => exact ⟨(y366), (t361), (wrap64 (x15_2 + 1)), eF, eF, H', ⟨by have := HJ4.out;have := HK2.out;omega⟩, ⟨by (with_reducible repeat (first | apply Kd.N_alloc | apply Kd.N_drewN | apply Kd.N_drew));exact HO368.out⟩, ⟨by (with_reducible repeat (first | apply Kd.N_alloc | apply Kd.N_drewN | apply Kd.N_drew));exact Kd.N_mono HO_11.out (fun _ hk => ⟨hk.1.1, ⟨hk.2, ⟨hk.1.2.1, ⟨hk.1.2.2.1, hk.1.2.2.2.2⟩⟩⟩⟩)⟩, ⟨by (with_reducible repeat (first | apply Kd.N_alloc | apply Kd.N_drewN | apply Kd.N_drew));exact Kd.N_mono HO_12.out (fun _ hk => ⟨hk.1.1, ⟨hk.2, ⟨hk.1.2.1, ⟨hk.1.2.2.1, hk.1.2.2.2.2⟩⟩⟩⟩)⟩, ⟨by refine rP ?_;exact Kd.R_mono HO_13.out (fun _ hk => hk.1)⟩, ⟨by exact kP BK332.out⟩, ⟨by exact bB⟩⟩


end Go.Proofs.YtgahlimikndecaaDoor.QPlayAttacks
