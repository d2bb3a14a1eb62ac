import Derived.Test.YtmokkhfmbenleaaQClosures0
import Derived.Test.YtmokkhfmbenleaaQClosures4
import Derived.Test.YtmokkhfmbenleaaQClosures5
import Derived.Test.YtmokkhfmbenleaaQClosures11
import Derived.Test.YtmokkhfmbenleaaQClosures12
import Derived.Test.YtmokkhfmbenleaaQClosures13
import Derived.Test.YtmokkhfmbenleaaQClosures15
namespace Go.Proofs.Ytmokkhfmbenleaa.QClosures
open Go.RowKit Go.Proofs.YtmokkhfmbenleaaW.PrintWords Go.Proofs.YtmokkhfmbenleaaW.PrintLast Go.Proofs.YtmokkhfmbenleaaW.PrintMore
attribute [local go_sem] max2_int min2_int max_two min_two max_three min_three max_four min_four   -- for this text's walks alone
set_option linter.unusedVariables false
set_option linter.unusedSimpArgs false
/-! ### spec_PowerAll: function 38 -/
def spec_PowerAll.f (k : Nat) (a0_0 : Int) (l0_1 : List (S119)) (l1 : List Int) : Option (List Int × Bool) := (spec_l9Both.f k a0_0 l0_1 l1).bind fun t716 => (if t716 = true then ((spec_l9Power.f k a0_0 l0_1 l1).bind fun t717 => (some (t717, true))) else (some ((([] : List Int)), false)))
theorem spec_PowerAll.mono : ∀ a0 a1 a2 k, LeO (spec_PowerAll.f k a0 a1 a2) (spec_PowerAll.f (k + 1) a0 a1 a2) := by
 intro a0 a1 a2 k
 unfold spec_PowerAll.f
 repeat' first
   | (with_reducible exact spec_l9Both.mono _ _ _ _)
   | (with_reducible exact spec_l9Power.mono _ _ _ _)
   | (with_reducible exact LeO.refl _)
   | (with_reducible exact LeO.none _)
   | (with_reducible refine LeO.ite ?_ ?_)
   | (with_reducible refine LeO.bind ?_ (fun _ => ?_))
   | exact spec_l9Both.mono _ _ _ _
   | exact spec_l9Power.mono _ _ _ _
   | exact LeO.none _
   | refine LeO.ite ?_ ?_
   | refine LeO.bind ?_ (fun _ => ?_)
set_option maxHeartbeats 8000000 in
set_option maxRecDepth 100000 in
theorem spec_PowerAll.calls (k : Nat) (a0_0 : Int) (A0_1 : Option Addr) (c0_1 : Nat) (l0_1 : List (S119)) (A1 : Option Addr) (c1 : Nat) (l1 : List Int) (r1 : List Int) (r2 : Bool) (w : World) (hr0_1 : Kd.C k119 w A0_1 l0_1.length l0_1) (hc0_1 : l0_1.length ≤ c0_1) (hr1 : Kd.C (Kd.int .i64) w A1 l1.length l1) (hc1 : l1.length ≤ c1) (h : spec_PowerAll.f k a0_0 l0_1 l1 = some (r1, r2)) :
  Calls Try.prog 38 #[.agg #[.int .i64 a0_0, .slice A0_1 l0_1.length c0_1], .slice A1 l1.length c1] w fun e w' => ∃ v0_ : Value, e = .returned (.tuple #[v0_, .bool r2]) ∧ Kd.R (Kd.int .i64) 3 w' w.heap.size (fun _ => True) v0_ r1 ∧ Below w.heap.size w w' := by
 have hu31 := Try.underlying31
 have HR0_1 := Aside0.mk hr0_1
 have HC0_1 := Aside0.mk hc0_1
 clear hr0_1 hc0_1
 have HR1 := Aside0.mk hr1
 have HC1 := Aside0.mk hc1
 clear hr1 hc1
 have HB := Aside0.mk (Below.refl w.heap.size w)
 have H : ((spec_l9Both.f k a0_0 l0_1 l1).bind fun t716 => (if t716 = true then ((spec_l9Power.f k a0_0 l0_1 l1).bind fun t717 => (some (t717, true))) else (some ((([] : List Int)), false)))) = some (r1, r2) := h
 clear h
 replace H := Option.bind_eq_some_iff.mp H
 obtain ⟨t716, A30, H⟩ := H
 replace H : (if t716 = true then ((spec_l9Power.f k a0_0 l0_1 l1).bind fun t717 => (some (t717, true))) else (some ((([] : List Int)), false))) = some (r1, r2) := H
 have A3 := Aside0.mk A30
 clear A30
 by_cases c4 : t716 = true
 ·subst c4
  have H1 : ((spec_l9Power.f k a0_0 l0_1 l1).bind fun t717 => (some (t717, true))) = some (r1, r2) := by rw [if_pos rfl] at H; exact H
  clear H
  have H := H1
  clear H1
  replace H := Option.bind_eq_some_iff.mp H
  obtain ⟨t717, A50, H⟩ := H
  replace H : (some (t717, true)) = some (r1, r2) := H
  have A5 := Aside0.mk A50
  clear A50
  simp only [Option.some.injEq, Prod.mk.injEq] at H
  obtain ⟨rfl, rfl⟩ := H
  go_enter Try.func38, Try.ntmps38
  go_wp2_with (first | ((with_reducible refine gate_dst (N := 2) rfl ?_); refine box_event ?hg (N := 2) ?hd (cs := #[.int .i64 a0_0, .slice A0_1 l0_1.length c0_1]) (t := 31) ?hr ?_; (case hd => rfl); (case hg => rfl); (case hr => first | (go_simp; done) | (go_simp; rfl)); intro gb715 hg w6 hbox hb; have n0_ := Aside0.mk (below_step (by exact bB) hb); have n1_ := Aside0.mk (hbox); have n2_ := Aside0.mk ((by rw [hg]; exact (below_size (by exact bB)) : w.heap.size ≤ gb715)); have n3_ := Aside0.mk ((by rw [hg]; exact (below_size (by exact bB)) : w.heap.size ≤ gb715)); clear HB; have HB := n0_; have BK715 := n1_; have GW715 := n2_; have GE715 := n3_; clear n0_ n1_ n2_ n3_; clear hb hbox hg; have hcz7_0 : w6.cell? ⟨gb715, 0, none⟩ = some (.int .i64 a0_0) := (blk_cell BK715.out 0).trans rfl; have hcz7_1 : w6.cell? ⟨gb715, 1, none⟩ = some (.slice A0_1 l0_1.length c0_1) := (blk_cell BK715.out 1).trans rfl; have hfz7_0 := blk_frozen BK715.out 0; have hfz7_1 := blk_frozen BK715.out 1) | ((with_reducible refine gate_callee (f := 90) rfl ?_); refine goesL_ (some 8) rfl rfl Try.func90 (by kernel_rfl) rfl #[.agg #[.int .i64 a0_0, .slice A0_1 l0_1.length c0_1], .slice A1 l1.length c1] rfl (by (try simp only [List.map_toArray, List.map_cons, List.map_nil]); first | done | rfl | (simp only [List.length_drop, List.length_take]; rfl)) ?_; (with_reducible refine (spec_l9Both.calls k a0_0 _ _ l0_1 _ _ l1 true _ ?side1 ?side2 ?side3 ?side4 A3.out).mono ?_); (case side1 => exact cP (Kd.C_below HR0_1.out HB.out)); (case side2 => exact HC0_1.out); (case side3 => exact cP (Kd.C_below HR1.out HB.out)); (case side4 => exact HC1.out); rintro e w8 ⟨rfl, hb⟩; refine ⟨_, rfl, ?_⟩; have n0_ := Aside0.mk (blk_below (g := gb715) (o := .cells #[.int .i64 a0_0, .slice A0_1 l0_1.length c0_1] 31 (0, 0)) (by exact kP BK715.out) hb); have n1_ := Aside0.mk (below_step (by exact bB) hb); clear BK715; clear HB; have BK715 := n0_; have HB := n1_; clear n0_ n1_; (try clear hb); (try clear hb2); (try clear hk); (try clear hi); have hcz9_0 : w8.cell? ⟨gb715, 0, none⟩ = some (.int .i64 a0_0) := (blk_cell BK715.out 0).trans rfl; have hcz9_1 : w8.cell? ⟨gb715, 1, none⟩ = some (.slice A0_1 l0_1.length c0_1) := (blk_cell BK715.out 1).trans rfl; have hfz9_0 := blk_frozen BK715.out 0; have hfz9_1 := blk_frozen BK715.out 1) | ((with_reducible refine gate_callee (f := 91) rfl ?_); refine goesL_ (some 13) rfl rfl Try.func91 (by kernel_rfl) rfl #[.agg #[.int .i64 a0_0, .slice A0_1 l0_1.length c0_1], .slice A1 l1.length c1] rfl (by (try simp only [List.map_toArray, List.map_cons, List.map_nil]); first | done | rfl | (simp only [List.length_drop, List.length_take]; rfl)) ?_; (with_reducible refine (spec_l9Power.calls k a0_0 _ _ l0_1 _ _ l1 t717 _ ?side1 ?side2 ?side3 ?side4 A5.out).mono ?_); (case side1 => exact cP (Kd.C_below HR0_1.out HB.out)); (case side2 => exact HC0_1.out); (case side3 => exact cP (Kd.C_below HR1.out HB.out)); (case side4 => exact HC1.out); rintro e w10 ⟨v718, rfl, ho0, hb⟩; refine ⟨_, rfl, ?_⟩; have n0_ := Aside0.mk (Kd.R_lower ho0 (below_size (by exact bB))); have n1_ := Aside0.mk (blk_below (g := gb715) (o := .cells #[.int .i64 a0_0, .slice A0_1 l0_1.length c0_1] 31 (0, 0)) (by exact kP BK715.out) hb); have n2_ := Aside0.mk (below_step (by exact bB) hb); clear BK715; clear HB; have HO719 := n0_; have BK715 := n1_; have HB := n2_; clear n0_ n1_ n2_; (try clear hb); (try clear hb2); (try clear hk); (try clear hi); (try clear ho0)))
  go_ret2
  exact ⟨_, by first | rfl | (simp [errW_none, errW_some] <;> rfl) | (simp [*, errW_none, errW_some] <;> rfl), by exact rP HO719.out, by exact bB⟩
 ·replace c4 := Bool.eq_false_iff.mpr c4
  subst c4
  have H1 : (some ((([] : List Int)), false)) = some (r1, r2) := by rw [if_neg (show ¬ (false = true) by decide)] at H; exact H
  clear H
  have H := H1
  clear H1
  obtain ⟨y720, hy720⟩ : ∃ y_ : List Int, y_ = (([] : List Int)) := ⟨_, rfl⟩
  replace H : (some (y720, false)) = some (r1, r2) := by first | (rw [hy720]; with_reducible exact H) | (have H2_ := (Option.bind_some _ _).symm.trans H; rw [hy720]; with_reducible exact H2_) | (have H2_ := (Option.bind_some _ _).symm.trans H; with_reducible exact H2_) | with_reducible exact H | (rw [hy720]; exact H) | exact H
  have Ny720 := Aside0.mk hy720
  clear hy720
  simp only [Option.some.injEq, Prod.mk.injEq] at H
  obtain ⟨rfl, rfl⟩ := H
  go_enter Try.func38, Try.ntmps38
  go_wp2_with (first | ((with_reducible refine gate_dst (N := 2) rfl ?_); refine box_event ?hg (N := 2) ?hd (cs := #[.int .i64 a0_0, .slice A0_1 l0_1.length c0_1]) (t := 31) ?hr ?_; (case hd => rfl); (case hg => rfl); (case hr => first | (go_simp; done) | (go_simp; rfl)); intro gb715 hg w11 hbox hb; have n0_ := Aside0.mk (below_step (by exact bB) hb); have n1_ := Aside0.mk (hbox); have n2_ := Aside0.mk ((by rw [hg]; exact (below_size (by exact bB)) : w.heap.size ≤ gb715)); have n3_ := Aside0.mk ((by rw [hg]; exact (below_size (by exact bB)) : w.heap.size ≤ gb715)); clear HB; have HB := n0_; have BK715 := n1_; have GW715 := n2_; have GE715 := n3_; clear n0_ n1_ n2_ n3_; clear hb hbox hg; have hcz12_0 : w11.cell? ⟨gb715, 0, none⟩ = some (.int .i64 a0_0) := (blk_cell BK715.out 0).trans rfl; have hcz12_1 : w11.cell? ⟨gb715, 1, none⟩ = some (.slice A0_1 l0_1.length c0_1) := (blk_cell BK715.out 1).trans rfl; have hfz12_0 := blk_frozen BK715.out 0; have hfz12_1 := blk_frozen BK715.out 1) | ((with_reducible refine gate_callee (f := 90) rfl ?_); refine goesL_ (some 8) rfl rfl Try.func90 (by kernel_rfl) rfl #[.agg #[.int .i64 a0_0, .slice A0_1 l0_1.length c0_1], .slice A1 l1.length c1] rfl (by (try simp only [List.map_toArray, List.map_cons, List.map_nil]); first | done | rfl | (simp only [List.length_drop, List.length_take]; rfl)) ?_; (with_reducible refine (spec_l9Both.calls k a0_0 _ _ l0_1 _ _ l1 false _ ?side1 ?side2 ?side3 ?side4 A3.out).mono ?_); (case side1 => exact cP (Kd.C_below HR0_1.out HB.out)); (case side2 => exact HC0_1.out); (case side3 => exact cP (Kd.C_below HR1.out HB.out)); (case side4 => exact HC1.out); rintro e w13 ⟨rfl, hb⟩; refine ⟨_, rfl, ?_⟩; have n0_ := Aside0.mk (blk_below (g := gb715) (o := .cells #[.int .i64 a0_0, .slice A0_1 l0_1.length c0_1] 31 (0, 0)) (by exact kP BK715.out) hb); have n1_ := Aside0.mk (below_step (by exact bB) hb); clear BK715; clear HB; have BK715 := n0_; have HB := n1_; clear n0_ n1_; (try clear hb); (try clear hb2); (try clear hk); (try clear hi)) | ((with_reducible refine gate_dst (N := 10) rfl ?_); refine Kd.R_lit (Kd.int .i64) _ 3 ?hg (N := 10) ?hd (xs := ([] : List Int)) (inner := []) (ok := fun _ => True) (okp := fun _ => True) ?hr ?hp (fun _ hk => hk) trivial (Below.refl _ _) (Nat.le_refl _) (by simp) ?_; (case hd => rfl); (case hg => rfl); (case hr => first | (go_simp; done) | (go_simp; rfl)); (case hp => exact (Reps.none _ _)); intro v721 w14 ho15 hb hg_ hnew_; clear hg_ hnew_; (first | rw [← Ny720.out] at ho15 | (simp only [Int.reduceToNat] at ho15; rw [← Ny720.out] at ho15)); have n0_ := Aside0.mk (Kd.R_lower ho15 (below_size (by exact bB))); have n1_ := Aside0.mk (blk_below (g := gb715) (o := .cells #[.int .i64 a0_0, .slice A0_1 l0_1.length c0_1] 31 (0, 0)) (by exact kP BK715.out) hb); have n2_ := Aside0.mk (below_step (by exact bB) hb); clear BK715; clear HB; have HO722 := n0_; have BK715 := n1_; have HB := n2_; clear n0_ n1_ n2_; clear hb ho15))
  go_ret2
  exact ⟨_, by first | rfl | (simp [errW_none, errW_some] <;> rfl) | (simp [*, errW_none, errW_some] <;> rfl), by exact rP HO722.out, by exact bB⟩


/-! ### spec_DrawSkewAll: function 39 -/
def spec_DrawSkewAll.f (k : Nat) (l0 : List Int) : Option (Int × (List (S119)) × List Int) := (spec_DrawForceOnce.f k l0).bind fun bt724 => (some (bt724.1, bt724.2.1, bt724.2.2))
theorem spec_DrawSkewAll.mono : ∀ a0 k, LeO (spec_DrawSkewAll.f k a0) (spec_DrawSkewAll.f (k + 1) a0) := by
 intro a0 k
 unfold spec_DrawSkewAll.f
 repeat' first
   | (with_reducible exact spec_DrawForceOnce.mono _ _)
   | (with_reducible exact LeO.refl _)
   | (with_reducible exact LeO.none _)
   | (with_reducible refine LeO.ite ?_ ?_)
   | (with_reducible refine LeO.bind ?_ (fun _ => ?_))
   | exact spec_DrawForceOnce.mono _ _
   | exact LeO.none _
   | refine LeO.ite ?_ ?_
   | refine LeO.bind ?_ (fun _ => ?_)
set_option maxHeartbeats 8000000 in
set_option maxRecDepth 100000 in
theorem spec_DrawSkewAll.calls (k : Nat) (A0 : Option Addr) (c0 : Nat) (l0 : List Int) (r1 : Int) (r2 : List (S119)) (r3 : List Int) (w : World) (hr0 : Kd.C (Kd.int .u8) w A0 l0.length l0) (hc0 : l0.length ≤ c0) (h : spec_DrawSkewAll.f k l0 = some (r1, r2, r3)) :
  Calls Try.prog 39 #[.slice A0 l0.length c0] w fun e w' => ∃ v1_ v2_ : Value, e = .returned (.tuple #[.agg #[.int .i64 r1, v1_], v2_]) ∧ Kd.R k119 119 w' w.heap.size (fun _ => True) v1_ r2 ∧ Kd.R (Kd.int .i64) 3 w' w.heap.size (fun _ => True) v2_ r3 ∧ Below w.heap.size w w' := by
 have hu31 := Try.underlying31
 have HR0 := Aside0.mk hr0
 have HC0 := Aside0.mk hc0
 clear hr0 hc0
 have HB := Aside0.mk (Below.refl w.heap.size w)
 have H : ((spec_DrawForceOnce.f k l0).bind fun bt724 => (some (bt724.1, bt724.2.1, bt724.2.2))) = some (r1, r2, r3) := h
 clear h
 replace H := Option.bind_eq_some_iff.mp H
 obtain ⟨⟨t724, t725, t728⟩, A20, H⟩ := H
 replace H : (some (t724, t725, t728)) = some (r1, r2, r3) := H
 have A2 := Aside0.mk A20
 clear A20
 simp only [Option.some.injEq, Prod.mk.injEq] at H
 obtain ⟨rfl, rfl, rfl⟩ := H
 go_enter Try.func39, Try.ntmps39
 go_wp2_with (first | ((with_reducible refine gate_dst (N := 2) rfl ?_); refine box_event ?hg (N := 2) ?hd (cs := #[.int .i64 0, .slice none 0 0]) (t := 31) ?hr ?_; (case hd => rfl); (case hg => rfl); (case hr => first | (go_simp; done) | (go_simp; rfl)); intro gb723 hg w3 hbox hb; have n0_ := Aside0.mk (below_step (by exact bB) hb); have n1_ := Aside0.mk (hbox); have n2_ := Aside0.mk ((by rw [hg]; exact (below_size (by exact bB)) : w.heap.size ≤ gb723)); have n3_ := Aside0.mk ((by rw [hg]; exact (below_size (by exact bB)) : w.heap.size ≤ gb723)); clear HB; have HB := n0_; have BK723 := n1_; have GW723 := n2_; have GE723 := n3_; clear n0_ n1_ n2_ n3_; clear hb hbox hg) | ((with_reducible refine gate_callee (f := 85) rfl ?_); refine goesL_ (some 5) rfl rfl Try.func85 (by kernel_rfl) rfl #[.slice A0 l0.length c0] rfl (by (try simp only [List.map_toArray, List.map_cons, List.map_nil]); first | done | rfl | (simp only [List.length_drop, List.length_take]; rfl)) ?_; (with_reducible refine (spec_DrawForceOnce.calls k _ _ l0 t724 t725 t728 _ ?side1 ?side2 A2.out).mono ?_); (case side1 => exact cP (Kd.C_below HR0.out HB.out)); (case side2 => exact HC0.out); rintro e w4 ⟨v726, v729, rfl, ho0, ho1, hb⟩; refine ⟨_, rfl, ?_⟩; have n0_ := Aside0.mk (Kd.R_lower ho0 (below_size (by exact bB))); have n1_ := Aside0.mk (Kd.R_lower ho1 (below_size (by exact bB))); have n2_ := Aside0.mk (blk_below (g := gb723) (o := .cells #[.int .i64 0, .slice none 0 0] 31 (0, 0)) (by exact kP BK723.out) hb); have n3_ := Aside0.mk (below_step (by exact bB) hb); clear BK723; clear HB; have HO727 := n0_; have HO730 := n1_; have BK723 := n2_; have HB := n3_; clear n0_ n1_ n2_ n3_; (try clear hb); (try clear hb2); (try clear hk); (try clear hi); (try clear ho0); (try clear ho1); have hcz5_0 : w4.cell? ⟨gb723, 0, none⟩ = some (.int .i64 0) := (blk_cell BK723.out 0).trans rfl; have hcz5_1 : w4.cell? ⟨gb723, 1, none⟩ = some (.slice none 0 0) := (blk_cell BK723.out 1).trans rfl; have hfz5_0 := blk_frozen BK723.out 0; have hfz5_1 := blk_frozen BK723.out 1; obtain ⟨Ao6, co6, eo6⟩ := Kd.R_slice HO727.out; subst eo6))
 refine bodyPost_ret (results_ct rfl _ _ gb723 31 #[.int .i64 t724, .slice Ao6 t725.length co6] (0, 0) _ rfl (by refine kP ?_; refine blk_put (cs := #[.int .i64 t724, .slice none 0 0]) ?_ 1 _ rfl; refine kP ?_; refine blk_put (cs := #[.int .i64 0, .slice none 0 0]) ?_ 0 _ rfl; exact kP BK723.out) Try.underlying31 rfl (by kernel_rfl)) rfl ?_
 exact ⟨_, _, by first | rfl | (simp [errW_none, errW_some] <;> rfl) | (simp [*, errW_none, errW_some] <;> rfl), by refine rP ?_; exact Kd.R_mono (Kd.R_far (p := ⟨gb723, 1, none⟩) (Kd.R_far (p := ⟨gb723, 0, none⟩) (Kd.R_types HO727.out BK723.out (by decide)) (fun _ hk => hk.2) (.int .i64 t724)) (fun _ hk => hk.2) (.slice Ao6 t725.length co6)) (fun _ hk => trivial), by refine rP ?_; exact Kd.R_mono (Kd.R_far (p := ⟨gb723, 1, none⟩) (Kd.R_far (p := ⟨gb723, 0, none⟩) (Kd.R_types HO730.out BK723.out (by decide)) (fun _ hk => hk.2) (.int .i64 t724)) (fun _ hk => hk.2) (.slice Ao6 t725.length co6)) (fun _ hk => trivial), by exact bB⟩


/-! ### laws_vCut: function 40 -/
def laws_vCut.f (l0 : List Int) (a1 : Int) : Option (List Int) := if a1 > (l0.length : Int) then ((some (([] : List Int) : List Int)).bind fun y731 => (if 0 ≤ (l0.length : Int) then (if (l0.length : Int) ≤ (l0.length : Int) then (if y731.length + (l0.drop ((l0.length : Int) : Int).toNat).length < 140737488355328 then ((some (y731 ++ (l0.drop ((l0.length : Int) : Int).toNat) : List Int)).bind fun y735 => (if y735.length < 140737488355328 then (some (y735 ++ [((l0.length : Int)) % 256])) else (none))) else (none)) else (none)) else (none))) else ((some (([] : List Int) : List Int)).bind fun y741 => (if 0 ≤ a1 then (if a1 ≤ (l0.length : Int) then (if y741.length + (l0.drop (a1 : Int).toNat).length < 140737488355328 then ((some (y741 ++ (l0.drop (a1 : Int).toNat) : List Int)).bind fun y745 => (if y745.length < 140737488355328 then (some (y745 ++ [(a1) % 256])) else (none))) else (none)) else (none)) else (none)))
set_option maxHeartbeats 8000000 in
set_option maxRecDepth 100000 in
theorem laws_vCut.calls (A0 : Option Addr) (c0 : Nat) (l0 : List Int) (a1 : Int) (r : List Int) (w : World) (hr0 : Kd.C (Kd.int .u8) w A0 l0.length l0) (hc0 : l0.length ≤ c0) (h : laws_vCut.f l0 a1 = some r) :
  Calls Try.prog 40 #[.slice A0 l0.length c0, .int .i64 a1] w fun e w' => ∃ v0_ : Value, e = .returned (v0_) ∧ Kd.R (Kd.int .u8) 5 w' w.heap.size (fun _ => True) v0_ r ∧ Below w.heap.size w w' := by
 have HR0 := Aside0.mk hr0
 have HC0 := Aside0.mk hc0
 clear hr0 hc0
 have HB := Aside0.mk (Below.refl w.heap.size w)
 have H : (if a1 > (l0.length : Int) then ((some (([] : List Int) : List Int)).bind fun y731 => (if 0 ≤ (l0.length : Int) then (if (l0.length : Int) ≤ (l0.length : Int) then (if y731.length + (l0.drop ((l0.length : Int) : Int).toNat).length < 140737488355328 then ((some (y731 ++ (l0.drop ((l0.length : Int) : Int).toNat) : List Int)).bind fun y735 => (if y735.length < 140737488355328 then (some (y735 ++ [((l0.length : Int)) % 256])) else (none))) else (none)) else (none)) else (none))) else ((some (([] : List Int) : List Int)).bind fun y741 => (if 0 ≤ a1 then (if a1 ≤ (l0.length : Int) then (if y741.length + (l0.drop (a1 : Int).toNat).length < 140737488355328 then ((some (y741 ++ (l0.drop (a1 : Int).toNat) : List Int)).bind fun y745 => (if y745.length < 140737488355328 then (some (y745 ++ [(a1) % 256])) else (none))) else (none)) else (none)) else (none)))) = some r := h
 clear h
 by_cases c3 : a1 > (l0.length : Int)
 ·rw [if_pos c3] at H
  have c3b0 : decide ((l0.length : Int) < a1) = true := decide_eq_true c3
  clear c3
  obtain ⟨y731, hy731⟩ : ∃ y_ : List Int, y_ = (([] : List Int)) := ⟨_, rfl⟩
  replace H : (if 0 ≤ (l0.length : Int) then (if (l0.length : Int) ≤ (l0.length : Int) then (if y731.length + (l0.drop ((l0.length : Int) : Int).toNat).length < 140737488355328 then ((some (y731 ++ (l0.drop ((l0.length : Int) : Int).toNat) : List Int)).bind fun y735 => (if y735.length < 140737488355328 then (some (y735 ++ [((l0.length : Int)) % 256])) else (none))) else (none)) else (none)) else (none)) = some r := by first | (rw [hy731]; with_reducible exact H) | (have H2_ := (Option.bind_some _ _).symm.trans H; rw [hy731]; with_reducible exact H2_) | (have H2_ := (Option.bind_some _ _).symm.trans H; with_reducible exact H2_) | with_reducible exact H | (rw [hy731]; exact H) | exact H
  have Ny731 := Aside0.mk hy731
  clear hy731
  by_cases c4 : 0 ≤ (l0.length : Int)
  ·rw [if_pos c4] at H
   have c4b0 := eq_true c4
   have c4b1 : decide (0 ≤ (l0.length : Int)) = true := decide_eq_true c4
   clear c4
   by_cases c5 : (l0.length : Int) ≤ (l0.length : Int)
   ·rw [if_pos c5] at H
    have c5b0 := eq_true c5
    have c5b1 : decide ((l0.length : Int) ≤ (l0.length : Int)) = true := decide_eq_true c5
    clear c5
    by_cases c6 : y731.length + (l0.drop ((l0.length : Int) : Int).toNat).length < 140737488355328
    ·rw [if_pos c6] at H
     have LMc6 := Aside0.mk c6
     clear c6
     obtain ⟨y735, hy735⟩ : ∃ y_ : List Int, y_ = (y731 ++ (l0.drop ((l0.length : Int) : Int).toNat)) := ⟨_, rfl⟩
     replace H : (if y735.length < 140737488355328 then (some (y735 ++ [((l0.length : Int)) % 256])) else (none)) = some r := by first | (rw [hy735]; with_reducible exact H) | (have H2_ := (Option.bind_some _ _).symm.trans H; rw [hy735]; with_reducible exact H2_) | (have H2_ := (Option.bind_some _ _).symm.trans H; with_reducible exact H2_) | with_reducible exact H | (rw [hy735]; exact H) | exact H
     have Ny735 := Aside0.mk hy735
     clear hy735
     by_cases c7 : y735.length < 140737488355328
     ·rw [if_pos c7] at H
      have LMc7 := Aside0.mk c7
      clear c7
      obtain ⟨y738, hy738⟩ : ∃ y_ : List Int, y_ = (y735 ++ [((l0.length : Int)) % 256]) := ⟨_, rfl⟩
      replace H : (some y738) = some r := by first | (rw [hy738]; with_reducible exact H) | (have H2_ := (Option.bind_some _ _).symm.trans H; rw [hy738]; with_reducible exact H2_) | (have H2_ := (Option.bind_some _ _).symm.trans H; with_reducible exact H2_) | with_reducible exact H | (rw [hy738]; exact H) | exact H
      have Ny738 := Aside0.mk hy738
      clear hy738
      obtain rfl := Option.some.inj H
      obtain ⟨d10, hd_⟩ : ∃ d_ : List Int, l0.drop ((l0.length : Int) : Int).toNat = d_ := ⟨_, rfl⟩
      rw [hd_] at Ny735 LMc6
      go_enter Try.func40, Try.ntmps40
      go_wp2_with (first | ((with_reducible refine gate_dst (N := 11) rfl ?_); refine Kd.R_lit (Kd.int .u8) _ 5 ?hg (N := 11) ?hd (xs := ([] : List Int)) (inner := []) (ok := fun _ => True) (okp := fun _ => True) ?hr ?hp (fun _ hk => hk) trivial (Below.refl _ _) (Nat.le_refl _) (by simp) ?_; (case hd => rfl); (case hg => rfl); (case hr => first | (go_simp; done) | (go_simp; rfl)); (case hp => exact (Reps.none _ _)); intro v732 w8 ho9 hb hg_ hnew_; clear hg_ hnew_; (first | rw [← Ny731.out] at ho9 | (simp only [Int.reduceToNat] at ho9; rw [← Ny731.out] at ho9)); have n0_ := Aside0.mk (Kd.R_lower ho9 (below_size (by exact bB))); have n1_ := Aside0.mk (below_step (by exact bB) hb); clear HB; have HO733 := n0_; have HB := n1_; clear n0_ n1_; clear hb ho9; obtain ⟨i010, hi010, _, hsz10, _⟩ := info_parts info5; obtain ⟨A10, hcut10, hA10, hC10⟩ := print_drop_of (P := Try.prog) (Value.int .u8) 0 44 5 .i64 Try.underlying44 hi010 hsz10 A0 c0 l0 (l0.length : Int) (of_decide_eq_true (by first | (with_reducible assumption) | assumption)) (of_decide_eq_true (by first | (with_reducible assumption) | assumption)) HC0.out; rw [hd_] at hcut10 hA10 hC10; have HR734 := Aside0.mk (Kd.C_of_reads (h1 := fun _ => rfl) (hA10 _ (Kd.reads_of_C HR0.out))); have HC734 := Aside0.mk hC10; clear hA10 hC10 hi010 hsz10) | ((with_reducible refine gate_builtin (b := .append) (xs := #[.tmp 11, .tmp 14]) rfl ?_); at_builtin; refine Kd.R_append_rows (Kd.int .u8) (w0 := w) w.heap.size rfl (.tmp 11) (.tmp 14) 44 5 (.int .u8 0) 1 rfl Try.underlying44 info5 rfl (by decide) (by omega) v732 y731 d10 _ _ _ (fun _ => True) (fun _ => False) rfl rfl ?aO ?aR (fun _ _ h => h) (fun _ h => h.elim) ?aF ?aB ?aS ?aL ?_; (case aR => first | (rw [← show d10.length = (l0.length - (l0.length : Int).toNat) from List.length_drop]; exact cP (Kd.C_below HR734.out HB.out)) | (exact cP (Kd.C_below HR734.out HB.out))); (case aB => exact (by exact bB)); (case aF => exact (fun _ _ => trivial)); (case aO => exact (by exact rP HO733.out)); (case aS => exact (below_size (by exact bB))); (case aL => have := LMc6.out; omega); intro v736 w11 ho hb hg hat; rw [← Ny735.out] at ho; have n0_ := Aside0.mk (hb); have n1_ := Aside0.mk (ho); clear HB; clear HO733; have HB := n0_; have HO737 := n1_; clear n0_ n1_; clear ho hb hg hat) | ((with_reducible refine gate_builtin (b := .append) (xs := #[.tmp 15, .tmp 18]) rfl ?_); at_builtin; refine Kd.R_append (Kd.int .u8) (w0 := w) w.heap.size rfl (.tmp 15) (.tmp 18) 44 5 (.int .u8 0) 1 rfl Try.underlying44 info5 rfl (by decide) (by omega) v736 y735 (((l0.length : Int)) % 256) [.int .u8 (((l0.length : Int)) % 256)] (fun _ => True) (fun _ => False) rfl rfl ?aP (fun _ hk => hk.elim) ?aF ?aO ?aB ?aS ?aL ?_; (case aP => exact rfl); (case aB => exact (by exact bB)); (case aF => exact (fun _ _ => trivial)); (case aO => exact (by exact rP HO737.out)); (case aS => exact (below_size (by exact bB))); (case aL => have := LMc7.out; omega); intro v739 w12 ho hb hg hat; rw [← Ny738.out] at ho; have n0_ := Aside0.mk (hb); have n1_ := Aside0.mk (ho); clear HB; clear HO737; have HB := n0_; have HO740 := n1_; clear n0_ n1_; clear ho hb hg hat))
      go_ret
      exact ⟨_, by first | rfl | (simp [errW_none, errW_some] <;> rfl) | (simp [*, errW_none, errW_some] <;> rfl), by exact rP HO740.out, by exact bB⟩
     ·rw [if_neg c7] at H
      exact absurd H (by simp)
    ·rw [if_neg c6] at H
     exact absurd H (by simp)
   ·rw [if_neg c5] at H
    exact absurd H (by simp)
  ·rw [if_neg c4] at H
   exact absurd H (by simp)
 ·rw [if_neg c3] at H
  have c3b0 : decide ((l0.length : Int) < a1) = false := decide_eq_false c3
  clear c3
  obtain ⟨y741, hy741⟩ : ∃ y_ : List Int, y_ = (([] : List Int)) := ⟨_, rfl⟩
  replace H : (if 0 ≤ a1 then (if a1 ≤ (l0.length : Int) then (if y741.length + (l0.drop (a1 : Int).toNat).length < 140737488355328 then ((some (y741 ++ (l0.drop (a1 : Int).toNat) : List Int)).bind fun y745 => (if y745.length < 140737488355328 then (some (y745 ++ [(a1) % 256])) else (none))) else (none)) else (none)) else (none)) = some r := by first | (rw [hy741]; with_reducible exact H) | (have H2_ := (Option.bind_some _ _).symm.trans H; rw [hy741]; with_reducible exact H2_) | (have H2_ := (Option.bind_some _ _).symm.trans H; with_reducible exact H2_) | with_reducible exact H | (rw [hy741]; exact H) | exact H
  have Ny741 := Aside0.mk hy741
  clear hy741
  by_cases c13 : 0 ≤ a1
  ·rw [if_pos c13] at H
   have c13b0 := eq_true c13
   have c13b1 : decide (0 ≤ a1) = true := decide_eq_true c13
   clear c13
   by_cases c14 : a1 ≤ (l0.length : Int)
   ·rw [if_pos c14] at H
    have c14b0 := eq_true c14
    have c14b1 : decide (a1 ≤ (l0.length : Int)) = true := decide_eq_true c14
    clear c14
    by_cases c15 : y741.length + (l0.drop (a1 : Int).toNat).length < 140737488355328
    ·rw [if_pos c15] at H
     have LMc15 := Aside0.mk c15
     clear c15
     obtain ⟨y745, hy745⟩ : ∃ y_ : List Int, y_ = (y741 ++ (l0.drop (a1 : Int).toNat)) := ⟨_, rfl⟩
     replace H : (if y745.length < 140737488355328 then (some (y745 ++ [(a1) % 256])) else (none)) = some r := by first | (rw [hy745]; with_reducible exact H) | (have H2_ := (Option.bind_some _ _).symm.trans H; rw [hy745]; with_reducible exact H2_) | (have H2_ := (Option.bind_some _ _).symm.trans H; with_reducible exact H2_) | with_reducible exact H | (rw [hy745]; exact H) | exact H
     have Ny745 := Aside0.mk hy745
     clear hy745
     by_cases c16 : y745.length < 140737488355328
     ·rw [if_pos c16] at H
      have LMc16 := Aside0.mk c16
      clear c16
      obtain ⟨y748, hy748⟩ : ∃ y_ : List Int, y_ = (y745 ++ [(a1) % 256]) := ⟨_, rfl⟩
      replace H : (some y748) = some r := by first | (rw [hy748]; with_reducible exact H) | (have H2_ := (Option.bind_some _ _).symm.trans H; rw [hy748]; with_reducible exact H2_) | (have H2_ := (Option.bind_some _ _).symm.trans H; with_reducible exact H2_) | with_reducible exact H | (rw [hy748]; exact H) | exact H
      have Ny748 := Aside0.mk hy748
      clear hy748
      obtain rfl := Option.some.inj H
      go_enter Try.func40, Try.ntmps40
      go_wp2_with (first | ((with_reducible refine gate_dst (N := 11) rfl ?_); refine Kd.R_lit (Kd.int .u8) _ 5 ?hg (N := 11) ?hd (xs := ([] : List Int)) (inner := []) (ok := fun _ => True) (okp := fun _ => True) ?hr ?hp (fun _ hk => hk) trivial (Below.refl _ _) (Nat.le_refl _) (by simp) ?_; (case hd => rfl); (case hg => rfl); (case hr => first | (go_simp; done) | (go_simp; rfl)); (case hp => exact (Reps.none _ _)); intro v742 w17 ho18 hb hg_ hnew_; clear hg_ hnew_; (first | rw [← Ny741.out] at ho18 | (simp only [Int.reduceToNat] at ho18; rw [← Ny741.out] at ho18)); have n0_ := Aside0.mk (Kd.R_lower ho18 (below_size (by exact bB))); have n1_ := Aside0.mk (below_step (by exact bB) hb); clear HB; have HO743 := n0_; have HB := n1_; clear n0_ n1_; clear hb ho18; obtain ⟨i019, hi019, _, hsz19, _⟩ := info_parts info5; obtain ⟨A19, hcut19, hA19, hC19⟩ := print_drop_of (P := Try.prog) (Value.int .u8) 0 44 5 .i64 Try.underlying44 hi019 hsz19 A0 c0 l0 a1 (of_decide_eq_true (by first | (with_reducible assumption) | assumption)) (of_decide_eq_true (by first | (with_reducible assumption) | assumption)) HC0.out; have HR744 := Aside0.mk (Kd.C_of_reads (h1 := fun _ => rfl) (hA19 _ (Kd.reads_of_C HR0.out))); have HC744 := Aside0.mk hC19; clear hA19 hC19 hi019 hsz19) | ((with_reducible refine gate_builtin (b := .append) (xs := #[.tmp 11, .tmp 14]) rfl ?_); at_builtin; refine Kd.R_append_rows (Kd.int .u8) (w0 := w) w.heap.size rfl (.tmp 11) (.tmp 14) 44 5 (.int .u8 0) 1 rfl Try.underlying44 info5 rfl (by decide) (by omega) v742 y741 (l0.drop (a1 : Int).toNat) _ _ _ (fun _ => True) (fun _ => False) rfl rfl ?aO ?aR (fun _ _ h => h) (fun _ h => h.elim) ?aF ?aB ?aS ?aL ?_; (case aR => first | (rw [← show (l0.drop (a1 : Int).toNat).length = (l0.length - a1.toNat) from List.length_drop]; exact cP (Kd.C_below HR744.out HB.out)) | (exact cP (Kd.C_below HR744.out HB.out))); (case aB => exact (by exact bB)); (case aF => exact (fun _ _ => trivial)); (case aO => exact (by exact rP HO743.out)); (case aS => exact (below_size (by exact bB))); (case aL => have := LMc15.out; have hlx_ := (show (l0.drop (a1 : Int).toNat).length = (l0.length - a1.toNat) from List.length_drop); omega); intro v746 w20 ho hb hg hat; rw [← Ny745.out] at ho; have n0_ := Aside0.mk (hb); have n1_ := Aside0.mk (ho); clear HB; clear HO743; have HB := n0_; have HO747 := n1_; clear n0_ n1_; clear ho hb hg hat) | ((with_reducible refine gate_builtin (b := .append) (xs := #[.tmp 15, .tmp 18]) rfl ?_); at_builtin; refine Kd.R_append (Kd.int .u8) (w0 := w) w.heap.size rfl (.tmp 15) (.tmp 18) 44 5 (.int .u8 0) 1 rfl Try.underlying44 info5 rfl (by decide) (by omega) v746 y745 ((a1) % 256) [.int .u8 ((a1) % 256)] (fun _ => True) (fun _ => False) rfl rfl ?aP (fun _ hk => hk.elim) ?aF ?aO ?aB ?aS ?aL ?_; (case aP => exact rfl); (case aB => exact (by exact bB)); (case aF => exact (fun _ _ => trivial)); (case aO => exact (by exact rP HO747.out)); (case aS => exact (below_size (by exact bB))); (case aL => have := LMc16.out; omega); intro v749 w21 ho hb hg hat; rw [← Ny748.out] at ho; have n0_ := Aside0.mk (hb); have n1_ := Aside0.mk (ho); clear HB; clear HO747; have HB := n0_; have HO750 := n1_; clear n0_ n1_; clear ho hb hg hat))
      go_ret
      exact ⟨_, by first | rfl | (simp [errW_none, errW_some] <;> rfl) | (simp [*, errW_none, errW_some] <;> rfl), by exact rP HO750.out, by exact bB⟩
     ·rw [if_neg c16] at H
      exact absurd H (by simp)
    ·rw [if_neg c15] at H
     exact absurd H (by simp)
   ·rw [if_neg c14] at H
    exact absurd H (by simp)
  ·rw [if_neg c13] at H
   exact absurd H (by simp)


/-! ### impl_SkewAll: function 41 -/
def impl_SkewAll.f (k : Nat) (a0_0 : Int) (l0_1 : List (S119)) (l1 : List Int) : Option (List Int × Bool) := (impl_isSet.f k a0_0 l0_1 l1).bind fun t752 => (if t752 = true then ((impl_netOf.f a0_0 l0_1).bind fun t753 => ((impl_maskOf.f k l1).bind fun t756 => ((impl_net_forceAll.f k t753 t756 true).bind fun t757 => ((impl_setOf.f k t757).bind fun t758 => (some (t758, true)))))) else (some (([] : List Int), false)))
theorem impl_SkewAll.mono : ∀ a0 a1 a2 k, LeO (impl_SkewAll.f k a0 a1 a2) (impl_SkewAll.f (k + 1) a0 a1 a2) := by
 intro a0 a1 a2 k
 unfold impl_SkewAll.f
 repeat' first
   | (with_reducible exact impl_isSet.mono _ _ _ _)
   | (with_reducible exact impl_maskOf.mono _ _)
   | (with_reducible exact impl_net_forceAll.mono _ _ _ _)
   | (with_reducible exact impl_setOf.mono _ _)
   | (with_reducible exact LeO.refl _)
   | (with_reducible exact LeO.none _)
   | (with_reducible refine LeO.ite ?_ ?_)
   | (with_reducible refine LeO.bind ?_ (fun _ => ?_))
   | exact impl_isSet.mono _ _ _ _
   | exact impl_maskOf.mono _ _
   | exact impl_net_forceAll.mono _ _ _ _
   | exact impl_setOf.mono _ _
   | exact LeO.none _
   | refine LeO.ite ?_ ?_
   | refine LeO.bind ?_ (fun _ => ?_)
set_option maxHeartbeats 8000000 in
set_option maxRecDepth 100000 in
theorem impl_SkewAll.calls (k : Nat) (a0_0 : Int) (A0_1 : Option Addr) (c0_1 : Nat) (l0_1 : List (S119)) (A1 : Option Addr) (c1 : Nat) (l1 : List Int) (r1 : List Int) (r2 : Bool) (w : World) (hr0_1 : Kd.C k119 w A0_1 l0_1.length l0_1) (hc0_1 : l0_1.length ≤ c0_1) (hr1 : Kd.C (Kd.int .i64) w A1 l1.length l1) (hc1 : l1.length ≤ c1) (h : impl_SkewAll.f k a0_0 l0_1 l1 = some (r1, r2)) :
  Calls Try.prog 41 #[.agg #[.int .i64 a0_0, .slice A0_1 l0_1.length c0_1], .slice A1 l1.length c1] w fun e w' => ∃ v0_ : Value, e = .returned (.tuple #[v0_, .bool r2]) ∧ Kd.R (Kd.int .i64) 3 w' w.heap.size (fun _ => True) v0_ r1 ∧ Below w.heap.size w w' := by
 have hu31 := Try.underlying31
 have HR0_1 := Aside0.mk hr0_1
 have HC0_1 := Aside0.mk hc0_1
 clear hr0_1 hc0_1
 have HR1 := Aside0.mk hr1
 have HC1 := Aside0.mk hc1
 clear hr1 hc1
 have HB := Aside0.mk (Below.refl w.heap.size w)
 have H : ((impl_isSet.f k a0_0 l0_1 l1).bind fun t752 => (if t752 = true then ((impl_netOf.f a0_0 l0_1).bind fun t753 => ((impl_maskOf.f k l1).bind fun t756 => ((impl_net_forceAll.f k t753 t756 true).bind fun t757 => ((impl_setOf.f k t757).bind fun t758 => (some (t758, true)))))) else (some (([] : List Int), false)))) = some (r1, r2) := h
 clear h
 replace H := Option.bind_eq_some_iff.mp H
 obtain ⟨t752, A30, H⟩ := H
 replace H : (if t752 = true then ((impl_netOf.f a0_0 l0_1).bind fun t753 => ((impl_maskOf.f k l1).bind fun t756 => ((impl_net_forceAll.f k t753 t756 true).bind fun t757 => ((impl_setOf.f k t757).bind fun t758 => (some (t758, true)))))) else (some (([] : List Int), false))) = some (r1, r2) := H
 have A3 := Aside0.mk A30
 clear A30
 by_cases c4 : t752 = true
 ·subst c4
  have H1 : ((impl_netOf.f a0_0 l0_1).bind fun t753 => ((impl_maskOf.f k l1).bind fun t756 => ((impl_net_forceAll.f k t753 t756 true).bind fun t757 => ((impl_setOf.f k t757).bind fun t758 => (some (t758, true)))))) = some (r1, r2) := by rw [if_pos rfl] at H; exact H
  clear H
  have H := H1
  clear H1
  replace H := Option.bind_eq_some_iff.mp H
  obtain ⟨t753, A50, H⟩ := H
  replace H : ((impl_maskOf.f k l1).bind fun t756 => ((impl_net_forceAll.f k t753 t756 true).bind fun t757 => ((impl_setOf.f k t757).bind fun t758 => (some (t758, true))))) = some (r1, r2) := H
  have A5 := Aside0.mk A50
  clear A50
  replace H := Option.bind_eq_some_iff.mp H
  obtain ⟨t756, A60, H⟩ := H
  replace H : ((impl_net_forceAll.f k t753 t756 true).bind fun t757 => ((impl_setOf.f k t757).bind fun t758 => (some (t758, true)))) = some (r1, r2) := H
  have A6 := Aside0.mk A60
  clear A60
  replace H := Option.bind_eq_some_iff.mp H
  obtain ⟨t757, A70, H⟩ := H
  replace H : ((impl_setOf.f k t757).bind fun t758 => (some (t758, true))) = some (r1, r2) := H
  have A7 := Aside0.mk A70
  clear A70
  replace H := Option.bind_eq_some_iff.mp H
  obtain ⟨t758, A80, H⟩ := H
  replace H : (some (t758, true)) = some (r1, r2) := H
  have A8 := Aside0.mk A80
  clear A80
  simp only [Option.some.injEq, Prod.mk.injEq] at H
  obtain ⟨rfl, rfl⟩ := H
  go_enter Try.func41, Try.ntmps41
  go_wp2_with (first | ((with_reducible refine gate_dst (N := 2) rfl ?_); refine box_event ?hg (N := 2) ?hd (cs := #[.int .i64 a0_0, .slice A0_1 l0_1.length c0_1]) (t := 31) ?hr ?_; (case hd => rfl); (case hg => rfl); (case hr => first | (go_simp; done) | (go_simp; rfl)); intro gb751 hg w9 hbox hb; have n0_ := Aside0.mk (below_step (by exact bB) hb); have n1_ := Aside0.mk (hbox); have n2_ := Aside0.mk ((by rw [hg]; exact (below_size (by exact bB)) : w.heap.size ≤ gb751)); have n3_ := Aside0.mk ((by rw [hg]; exact (below_size (by exact bB)) : w.heap.size ≤ gb751)); clear HB; have HB := n0_; have BK751 := n1_; have GW751 := n2_; have GE751 := n3_; clear n0_ n1_ n2_ n3_; clear hb hbox hg; have hcz10_0 : w9.cell? ⟨gb751, 0, none⟩ = some (.int .i64 a0_0) := (blk_cell BK751.out 0).trans rfl; have hcz10_1 : w9.cell? ⟨gb751, 1, none⟩ = some (.slice A0_1 l0_1.length c0_1) := (blk_cell BK751.out 1).trans rfl; have hfz10_0 := blk_frozen BK751.out 0; have hfz10_1 := blk_frozen BK751.out 1) | ((with_reducible refine gate_callee (f := 86) rfl ?_); refine goesL_ (some 8) rfl rfl Try.func86 (by kernel_rfl) rfl #[.agg #[.int .i64 a0_0, .slice A0_1 l0_1.length c0_1], .slice A1 l1.length c1] rfl (by (try simp only [List.map_toArray, List.map_cons, List.map_nil]); first | done | rfl | (simp only [List.length_drop, List.length_take]; rfl)) ?_; (with_reducible refine (impl_isSet.calls k a0_0 _ _ l0_1 _ _ l1 true _ ?side1 ?side2 ?side3 ?side4 A3.out).mono ?_); (case side1 => exact cP (Kd.C_below HR0_1.out HB.out)); (case side2 => exact HC0_1.out); (case side3 => exact cP (Kd.C_below HR1.out HB.out)); (case side4 => exact HC1.out); rintro e w11 ⟨rfl, hb⟩; refine ⟨_, rfl, ?_⟩; have n0_ := Aside0.mk (blk_below (g := gb751) (o := .cells #[.int .i64 a0_0, .slice A0_1 l0_1.length c0_1] 31 (0, 0)) (by exact kP BK751.out) hb); have n1_ := Aside0.mk (below_step (by exact bB) hb); clear BK751; clear HB; have BK751 := n0_; have HB := n1_; clear n0_ n1_; (try clear hb); (try clear hb2); (try clear hk); (try clear hi); have hcz12_0 : w11.cell? ⟨gb751, 0, none⟩ = some (.int .i64 a0_0) := (blk_cell BK751.out 0).trans rfl; have hcz12_1 : w11.cell? ⟨gb751, 1, none⟩ = some (.slice A0_1 l0_1.length c0_1) := (blk_cell BK751.out 1).trans rfl; have hfz12_0 := blk_frozen BK751.out 0; have hfz12_1 := blk_frozen BK751.out 1) | ((with_reducible refine gate_callee (f := 72) rfl ?_); refine goesL_ (some 11) rfl rfl Try.func72 (by kernel_rfl) rfl #[.agg #[.int .i64 a0_0, .slice A0_1 l0_1.length c0_1]] rfl (by (try simp only [List.map_toArray, List.map_cons, List.map_nil]); first | done | rfl | (simp only [List.length_drop, List.length_take]; rfl)) ?_; (with_reducible refine (impl_netOf.calls a0_0 _ _ l0_1 t753 _ ?side1 ?side2 A5.out).mono ?_); (case side1 => exact cP (Kd.C_below HR0_1.out HB.out)); (case side2 => exact HC0_1.out); rintro e w13 ⟨v754, rfl, ho0, hb⟩; refine ⟨_, rfl, ?_⟩; have n0_ := Aside0.mk (Kd.R_lower ho0 (below_size (by exact bB))); have n1_ := Aside0.mk (blk_below (g := gb751) (o := .cells #[.int .i64 a0_0, .slice A0_1 l0_1.length c0_1] 31 (0, 0)) (by exact kP BK751.out) hb); have n2_ := Aside0.mk (below_step (by exact bB) hb); clear BK751; clear HB; have HO755 := n0_; have BK751 := n1_; have HB := n2_; clear n0_ n1_ n2_; (try clear hb); (try clear hb2); (try clear hk); (try clear hi); (try clear ho0)) | ((with_reducible refine gate_callee (f := 89) rfl ?_); refine goesL_ (some 13) rfl rfl Try.func89 (by kernel_rfl) rfl #[.slice A1 l1.length c1] rfl (by (try simp only [List.map_toArray, List.map_cons, List.map_nil]); first | done | rfl | (simp only [List.length_drop, List.length_take]; rfl)) ?_; (with_reducible refine (impl_maskOf.calls k _ _ l1 t756 _ ?side1 ?side2 A6.out).mono ?_); (case side1 => exact cP (Kd.C_below HR1.out HB.out)); (case side2 => exact HC1.out); rintro e w' ⟨rfl, ⟨nd, rfl⟩⟩; refine ⟨_, rfl, ?_⟩; obtain ⟨Ao14, co14, eo14⟩ := Kd.R_slice HO755.out; subst eo14) | ((with_reducible refine gate_callee (f := 87) rfl ?_); refine goesL_ (some 14) rfl rfl Try.func87 (by kernel_rfl) rfl #[.agg #[.slice Ao14 t753.length co14], .int .i64 t756, .bool true] rfl (by (try simp only [List.map_toArray, List.map_cons, List.map_nil]); first | done | rfl | (simp only [List.length_drop, List.length_take]; rfl)) ?_; (with_reducible refine (impl_net_forceAll.calls k _ _ t753 t756 true t757 _ ?side1 ?side2 A7.out).mono ?_); (case side1 => exact cP (Kd.R_reads' HO755.out).2.2); (case side2 => exact (Kd.R_reads' HO755.out).2.1); rintro e w15 ⟨rfl, hb⟩; refine ⟨_, rfl, ?_⟩; have n0_ := Aside0.mk (Kd.R_below (by exact rP HO755.out) hb); have n1_ := Aside0.mk (blk_below (g := gb751) (o := .cells #[.int .i64 a0_0, .slice A0_1 l0_1.length c0_1] 31 (0, 0)) (by exact kP BK751.out) hb); have n2_ := Aside0.mk (below_step (by exact bB) hb); clear HO755; clear BK751; clear HB; have HO755 := n0_; have BK751 := n1_; have HB := n2_; clear n0_ n1_ n2_; (try clear hb); (try clear hb2); (try clear hk); (try clear hi)) | ((with_reducible refine gate_callee (f := 71) rfl ?_); refine goesL_ (some 15) rfl rfl Try.func71 (by kernel_rfl) rfl #[.int .i64 t757] rfl (by (try simp only [List.map_toArray, List.map_cons, List.map_nil]); first | done | rfl | (simp only [List.length_drop, List.length_take]; rfl)) ?_; (with_reducible refine (impl_setOf.calls k t757 t758 _ A8.out).mono ?_); rintro e w16 ⟨v759, rfl, ho0, hb⟩; refine ⟨_, rfl, ?_⟩; have n0_ := Aside0.mk (Kd.R_elder' (by exact rP HO755.out) (Kd.R_base ho0) hb); have n1_ := Aside0.mk (Kd.R_lower (Kd.R_new' ho0 (Kd.R_lt (by exact rP HO755.out))) (below_size (by exact bB))); have n2_ := Aside0.mk (blk_below (g := gb751) (o := .cells #[.int .i64 a0_0, .slice A0_1 l0_1.length c0_1] 31 (0, 0)) (by exact kP BK751.out) hb); have n3_ := Aside0.mk (below_step (by exact bB) hb); clear HO755; clear BK751; clear HB; have HO755 := n0_; have HO760 := n1_; have BK751 := n2_; have HB := n3_; clear n0_ n1_ n2_ n3_; (try clear hb); (try clear hb2); (try clear hk); (try clear hi); (try clear ho0)))
  go_ret2
  exact ⟨_, by first | rfl | (simp [errW_none, errW_some] <;> rfl) | (simp [*, errW_none, errW_some] <;> rfl), by refine rP ?_; exact Kd.R_mono HO760.out (fun _ hk => trivial), by exact bB⟩
 ·replace c4 := Bool.eq_false_iff.mpr c4
  subst c4
  have H1 : (some (([] : List Int), false)) = some (r1, r2) := by rw [if_neg (show ¬ (false = true) by decide)] at H; exact H
  clear H
  have H := H1
  clear H1
  simp only [Option.some.injEq, Prod.mk.injEq] at H
  obtain ⟨rfl, rfl⟩ := H
  go_enter Try.func41, Try.ntmps41
  go_wp2_with (first | ((with_reducible refine gate_dst (N := 2) rfl ?_); refine box_event ?hg (N := 2) ?hd (cs := #[.int .i64 a0_0, .slice A0_1 l0_1.length c0_1]) (t := 31) ?hr ?_; (case hd => rfl); (case hg => rfl); (case hr => first | (go_simp; done) | (go_simp; rfl)); intro gb751 hg w17 hbox hb; have n0_ := Aside0.mk (below_step (by exact bB) hb); have n1_ := Aside0.mk (hbox); have n2_ := Aside0.mk ((by rw [hg]; exact (below_size (by exact bB)) : w.heap.size ≤ gb751)); have n3_ := Aside0.mk ((by rw [hg]; exact (below_size (by exact bB)) : w.heap.size ≤ gb751)); clear HB; have HB := n0_; have BK751 := n1_; have GW751 := n2_; have GE751 := n3_; clear n0_ n1_ n2_ n3_; clear hb hbox hg; have hcz18_0 : w17.cell? ⟨gb751, 0, none⟩ = some (.int .i64 a0_0) := (blk_cell BK751.out 0).trans rfl; have hcz18_1 : w17.cell? ⟨gb751, 1, none⟩ = some (.slice A0_1 l0_1.length c0_1) := (blk_cell BK751.out 1).trans rfl; have hfz18_0 := blk_frozen BK751.out 0; have hfz18_1 := blk_frozen BK751.out 1) | ((with_reducible refine gate_callee (f := 86) rfl ?_); refine goesL_ (some 8) rfl rfl Try.func86 (by kernel_rfl) rfl #[.agg #[.int .i64 a0_0, .slice A0_1 l0_1.length c0_1], .slice A1 l1.length c1] rfl (by (try simp only [List.map_toArray, List.map_cons, List.map_nil]); first | done | rfl | (simp only [List.length_drop, List.length_take]; rfl)) ?_; (with_reducible refine (impl_isSet.calls k a0_0 _ _ l0_1 _ _ l1 false _ ?side1 ?side2 ?side3 ?side4 A3.out).mono ?_); (case side1 => exact cP (Kd.C_below HR0_1.out HB.out)); (case side2 => exact HC0_1.out); (case side3 => exact cP (Kd.C_below HR1.out HB.out)); (case side4 => exact HC1.out); rintro e w19 ⟨rfl, hb⟩; refine ⟨_, rfl, ?_⟩; have n0_ := Aside0.mk (blk_below (g := gb751) (o := .cells #[.int .i64 a0_0, .slice A0_1 l0_1.length c0_1] 31 (0, 0)) (by exact kP BK751.out) hb); have n1_ := Aside0.mk (below_step (by exact bB) hb); clear BK751; clear HB; have BK751 := n0_; have HB := n1_; clear n0_ n1_; (try clear hb); (try clear hb2); (try clear hk); (try clear hi)))
  go_ret2
  exact ⟨_, by first | rfl | (simp [errW_none, errW_some] <;> rfl) | (simp [*, errW_none, errW_some] <;> rfl), by first | exact Kd.R_nil _ _ _ _ _ | exact Kd.N_nil _ _ _ _ _ | exact Kd.V_nil _ _ _ _ _ | exact Kd.Q_nil _ _ _ _ _ | exact Kd.S_nil _ _ _ _ _, by exact bB⟩


end Go.Proofs.Ytmokkhfmbenleaa.QClosures
