import Derived.Test.YtmokkhfmbenleaaQClosures0
import Derived.Test.YtmokkhfmbenleaaQClosures6
import Derived.Test.YtmokkhfmbenleaaQClosures7
namespace Go.Proofs.Ytmokkhfmbenleaa.QClosures
open Go.RowKit Go.Proofs.YtmokkhfmbenleaaW.PrintWords Go.Proofs.YtmokkhfmbenleaaW.PrintLast Go.Proofs.YtmokkhfmbenleaaW.PrintMore
attribute [local go_sem] max2_int min2_int max_two min_two max_three min_three max_four min_four   -- for this text's walks alone
set_option linter.unusedVariables false
set_option linter.unusedSimpArgs false
/-! ### spec_l2Cycle: function 133 -/
def spec_l2Cycle.f (k : Nat) (a0 : Int) : Option (Int × (List (S119))) := (spec_l2Path.f k a0).bind fun bt465 => ((spec_l2Put.f k bt465.2 0 (wrap64 (a0 - 1))).bind fun t470 => (some (bt465.1, t470)))
theorem spec_l2Cycle.mono : ∀ a0 k, LeO (spec_l2Cycle.f k a0) (spec_l2Cycle.f (k + 1) a0) := by
 intro a0 k
 unfold spec_l2Cycle.f
 repeat' first
   | (with_reducible exact spec_l2Path.mono _ _)
   | (with_reducible exact spec_l2Put.mono _ _ _ _)
   | (with_reducible exact LeO.refl _)
   | (with_reducible exact LeO.none _)
   | (with_reducible refine LeO.ite ?_ ?_)
   | (with_reducible refine LeO.bind ?_ (fun _ => ?_))
   | exact spec_l2Path.mono _ _
   | exact spec_l2Put.mono _ _ _ _
   | exact LeO.none _
   | refine LeO.ite ?_ ?_
   | refine LeO.bind ?_ (fun _ => ?_)
set_option maxHeartbeats 8000000 in
set_option maxRecDepth 100000 in
theorem spec_l2Cycle.calls (k : Nat) (a0 : Int) (r1 : Int) (r2 : List (S119)) (w : World) (h : spec_l2Cycle.f k a0 = some (r1, r2)) :
  Calls Try.prog 133 #[.int .i64 a0] w fun e w' => ∃ v1_ : Value, e = .returned (.agg #[.int .i64 r1, v1_]) ∧ Kd.R k119 119 w' w.heap.size (fun _ => True) v1_ r2 ∧ Below w.heap.size w w' := by
 have hu31 := Try.underlying31
 have hu119 := Try.underlying119
 have HB := Aside0.mk (Below.refl w.heap.size w)
 have H : ((spec_l2Path.f k a0).bind fun bt465 => ((spec_l2Put.f k bt465.2 0 (wrap64 (a0 - 1))).bind fun t470 => (some (bt465.1, t470)))) = some (r1, r2) := h
 clear h
 replace H := Option.bind_eq_some_iff.mp H
 obtain ⟨⟨t465, t466⟩, A20, H⟩ := H
 replace H : ((spec_l2Put.f k t466 0 (wrap64 (a0 - 1))).bind fun t470 => (some (t465, t470))) = some (r1, r2) := H
 have A2 := Aside0.mk A20
 clear A20
 replace H := Option.bind_eq_some_iff.mp H
 obtain ⟨t470, A30, H⟩ := H
 replace H : (some (t465, t470)) = some (r1, r2) := H
 have A3 := Aside0.mk A30
 clear A30
 simp only [Option.some.injEq, Prod.mk.injEq] at H
 obtain ⟨rfl, rfl⟩ := H
 go_enter Try.func133, Try.ntmps133
 go_wp2_with (first | ((with_reducible refine gate_dst (N := 2) rfl ?_); refine box_event ?hg (N := 2) ?hd (cs := #[.int .i64 0, .slice none 0 0]) (t := 31) ?hr ?_; (case hd => rfl); (case hg => rfl); (case hr => first | (go_simp; done) | (go_simp; rfl)); intro gb464 hg w4 hbox hb; have n0_ := Aside0.mk (below_step (by exact bB) hb); have n1_ := Aside0.mk (hbox); have n2_ := Aside0.mk ((by rw [hg]; exact (below_size (by exact bB)) : w.heap.size ≤ gb464)); have n3_ := Aside0.mk ((by rw [hg]; exact (below_size (by exact bB)) : w.heap.size ≤ gb464)); clear HB; have HB := n0_; have BK464 := n1_; have GW464 := n2_; have GE464 := n3_; clear n0_ n1_ n2_ n3_; clear hb hbox hg) | ((with_reducible refine gate_callee (f := 132) rfl ?_); refine goesL_ (some 5) rfl rfl Try.func132 (by kernel_rfl) rfl #[.int .i64 a0] rfl (by (try simp only [List.map_toArray, List.map_cons, List.map_nil]); first | done | rfl | (simp only [List.length_drop, List.length_take]; rfl)) ?_; (with_reducible refine (spec_l2Path.calls k a0 t465 t466 _ A2.out).mono ?_); rintro e w5 ⟨v467, rfl, ho0, hb⟩; refine ⟨_, rfl, ?_⟩; have n0_ := Aside0.mk (Kd.R_lower ho0 (below_size (by exact bB))); have n1_ := Aside0.mk (blk_below (g := gb464) (o := .cells #[.int .i64 0, .slice none 0 0] 31 (0, 0)) (by exact kP BK464.out) hb); have n2_ := Aside0.mk (below_step (by exact bB) hb); clear BK464; clear HB; have HO468 := n0_; have BK464 := n1_; have HB := n2_; clear n0_ n1_ n2_; (try clear hb); (try clear hb2); (try clear hk); (try clear hi); (try clear ho0)) | ((with_reducible refine gate_dst (N := 3) rfl ?_); refine box_event ?hg (N := 3) ?hd (cs := #[.int .i64 0, .slice none 0 0]) (t := 31) ?hr ?_; (case hd => rfl); (case hg => rfl); (case hr => first | (go_simp; done) | (go_simp; rfl)); intro gb469 hg w6 hbox hb; have n0_ := Aside0.mk (Kd.R_below (by exact rP HO468.out) hb); have n1_ := Aside0.mk (blk_below (g := gb464) (o := .cells #[.int .i64 0, .slice none 0 0] 31 (0, 0)) (by exact kP BK464.out) hb); have n2_ := Aside0.mk (below_step (by exact bB) hb); have n3_ := Aside0.mk (hbox); have n4_ := Aside0.mk ((by rw [hg]; exact (below_size (by exact bB)) : w.heap.size ≤ gb469)); have n5_ := Aside0.mk ((by rw [hg]; exact (below_size (by exact bB)) : w.heap.size ≤ gb469)); have n6_ := Aside0.mk ((by rw [hg]; exact Nat.ne_of_lt (blk_lt (g := gb464) (o := .cells #[.int .i64 0, .slice none 0 0] 31 (0, 0)) (by exact kP BK464.out)) : gb464 ≠ gb469)); have n7_ := Aside0.mk ((by rw [hg]; exact Nat.ne_of_gt (blk_lt (g := gb464) (o := .cells #[.int .i64 0, .slice none 0 0] 31 (0, 0)) (by exact kP BK464.out)) : gb469 ≠ gb464)); clear HO468; clear BK464; clear HB; have HO468 := n0_; have BK464 := n1_; have HB := n2_; have BK469 := n3_; have GW469 := n4_; have GE469 := n5_; have NB464_469 := n6_; have NB469_464 := n7_; clear n0_ n1_ n2_ n3_ n4_ n5_ n6_ n7_; clear hb hbox hg; have hnb7 := NB469_464.out; have hnc7 := NB464_469.out; have hcz8_0 : w6.cell? ⟨gb469, 0, none⟩ = some (.int .i64 0) := (blk_cell BK469.out 0).trans rfl; have hcz8_1 : w6.cell? ⟨gb469, 1, none⟩ = some (.slice none 0 0) := (blk_cell BK469.out 1).trans rfl; have hfz8_0 := blk_frozen BK469.out 0; have hfz8_1 := blk_frozen BK469.out 1; obtain ⟨Ao9, co9, eo9⟩ := Kd.R_slice HO468.out; subst eo9) | ((with_reducible refine gate_callee (f := 135) rfl ?_); refine goesL_ (some 11) rfl rfl Try.func135 (by kernel_rfl) rfl #[.slice Ao9 t466.length co9, .agg #[.int .i64 0, .int .i64 (wrap64 (a0 - 1))]] rfl (by (try simp only [List.map_toArray, List.map_cons, List.map_nil]); first | done | rfl | (simp only [List.length_drop, List.length_take]; rfl)) ?_; (with_reducible refine (spec_l2Put.calls k _ _ t466 0 (wrap64 (a0 - 1)) t470 _ ?side1 ?side2 A3.out).mono ?_); (case side1 => refine (Kd.R_reads' (e := 119) (base := w.heap.size) (ok := fun k_ => True) (n := t466.length) (c := co9) ?_).2.2; exact (by refine rP ?_; exact (Kd.R_mono (Kd.R_far (p := ⟨gb469, 1, none⟩) (Kd.R_far (p := ⟨gb469, 0, none⟩) (Kd.R_types HO468.out BK469.out (by decide)) (fun _ hk => hk.2) (.int .i64 t465)) (fun _ hk => hk.2) (.slice Ao9 t466.length co9)) (fun _ h_ => h_.1)))); (case side2 => exact (Kd.R_reads' HO468.out).2.1); rintro e w10 ⟨v471, rfl, ho0, hb⟩; refine ⟨_, rfl, ?_⟩; have n0_ := Aside0.mk (Kd.R_elder' (by exact rP ((Kd.R_mono (Kd.R_far (p := ⟨gb469, 1, none⟩) (Kd.R_far (p := ⟨gb469, 0, none⟩) (Kd.R_types HO468.out BK469.out (by decide)) (fun _ hk => hk.2) (.int .i64 t465)) (fun _ hk => hk.2) (.slice Ao9 t466.length co9)) (fun _ h_ => h_.1)))) (Kd.R_base ho0) hb); have n1_ := Aside0.mk (Kd.R_lower (Kd.R_new' ho0 (Kd.R_lt (by exact rP ((Kd.R_mono (Kd.R_far (p := ⟨gb469, 1, none⟩) (Kd.R_far (p := ⟨gb469, 0, none⟩) (Kd.R_types HO468.out BK469.out (by decide)) (fun _ hk => hk.2) (.int .i64 t465)) (fun _ hk => hk.2) (.slice Ao9 t466.length co9)) (fun _ h_ => h_.1)))))) (below_size (by exact bB))); have n2_ := Aside0.mk (blk_below (g := gb464) (o := .cells #[.int .i64 0, .slice none 0 0] 31 (0, 0)) (by refine kP ?_; refine blk_far ?_ NB464_469.out _; refine kP ?_; refine blk_far ?_ NB464_469.out _; exact kP BK464.out) hb); have n3_ := Aside0.mk (blk_below (g := gb469) (o := .cells #[.int .i64 t465, .slice Ao9 t466.length co9] 31 (0, 0)) (by refine kP ?_; refine blk_put (cs := #[.int .i64 t465, .slice none 0 0]) ?_ 1 _ rfl; refine kP ?_; refine blk_put (cs := #[.int .i64 0, .slice none 0 0]) ?_ 0 _ rfl; exact kP BK469.out) hb); have n4_ := Aside0.mk (below_step (by exact bB) hb); clear HO468; clear BK464; clear BK469; clear HB; have HO468 := n0_; have HO472 := n1_; have BK464 := n2_; have BK469 := n3_; have HB := n4_; clear n0_ n1_ n2_ n3_ n4_; (try clear hb); (try clear hb2); (try clear hk); (try clear hi); (try clear ho0); obtain ⟨Ao11, co11, eo11⟩ := Kd.R_slice HO472.out; subst eo11; have hcz12_0 : w10.cell? ⟨gb469, 0, none⟩ = some (.int .i64 t465) := (blk_cell BK469.out 0).trans rfl; have hcz12_1 : w10.cell? ⟨gb469, 1, none⟩ = some (.slice Ao9 t466.length co9) := (blk_cell BK469.out 1).trans rfl; have hfz12_0 := blk_frozen BK469.out 0; have hfz12_1 := blk_frozen BK469.out 1; have hcz13_0 : w10.cell? ⟨gb464, 0, none⟩ = some (.int .i64 0) := (blk_cell BK464.out 0).trans rfl; have hcz13_1 : w10.cell? ⟨gb464, 1, none⟩ = some (.slice none 0 0) := (blk_cell BK464.out 1).trans rfl; have hfz13_0 := blk_frozen BK464.out 0; have hfz13_1 := blk_frozen BK464.out 1))
 refine bodyPost_ret (results_cell_row rfl _ _ gb464 31 #[.int .i64 t465, .slice Ao11 t470.length co11] (0, 0) _ rfl (by refine kP ?_; refine blk_put (cs := #[.int .i64 t465, .slice none 0 0]) ?_ 1 _ rfl; refine kP ?_; refine blk_put (cs := #[.int .i64 0, .slice none 0 0]) ?_ 0 _ rfl; refine kP ?_; refine blk_far ?_ NB464_469.out _; exact kP BK464.out) Try.underlying31 rfl (by kernel_rfl)) rfl ?_
 exact ⟨_, by first | rfl | (simp [errW_none, errW_some] <;> rfl) | (simp [*, errW_none, errW_some] <;> rfl), by refine rP ?_; exact Kd.R_mono (Kd.R_far (p := ⟨gb464, 1, none⟩) (Kd.R_far (p := ⟨gb464, 0, none⟩) (Kd.R_far (p := ⟨gb469, 1, none⟩) (Kd.R_types (Kd.R_types HO472.out BK469.out (by decide)) BK464.out (by decide)) (fun _ hk => hk.1.2) (.slice Ao11 t470.length co11)) (fun _ hk => hk.2) (.int .i64 t465)) (fun _ hk => hk.2) (.slice Ao11 t470.length co11)) (fun _ hk => trivial), by exact bB⟩


/-! ### spec_l2Complete: function 134 -/
mutual
def spec_l2Complete.l0 : Nat → Int → Int → Int → List (S119) → Option (Int × (List (S119)))
 | 0, _, _, _, _ => none
 | k + 1, x0, x4, x478000, x478001 => if x4 < x0 then (spec_l2Complete.l1 k x0 x4 (wrap64 (x4 + 1)) x478000 x478001) else (some (x478000, x478001))
def spec_l2Complete.l1 : Nat → Int → Int → Int → Int → List (S119) → Option (Int × (List (S119)))
 | 0, _, _, _, _, _ => none
 | k + 1, x0, x4, x5, x478000, x478001 => if x5 < x0 then (if x478001.length < 8796093022208 then (spec_l2Complete.l1 k x0 x4 (wrap64 (x5 + 1)) x478000 (x478001 ++ [(⟨x4, x5⟩ : S119)])) else (none)) else (spec_l2Complete.l0 k x0 (wrap64 (x4 + 1)) x478000 x478001)
end
def spec_l2Complete.f (k : Nat) (a0 : Int) : Option (Int × (List (S119))) := spec_l2Complete.l0 k a0 0 a0 (([] : List (S119)))
theorem spec_l2Complete.mono_l : ∀ k, (∀ y0 y1 y2 y3, LeO (spec_l2Complete.l0 k y0 y1 y2 y3) (spec_l2Complete.l0 (k + 1) y0 y1 y2 y3)) ∧ (∀ y0 y1 y2 y3 y4, LeO (spec_l2Complete.l1 k y0 y1 y2 y3 y4) (spec_l2Complete.l1 (k + 1) y0 y1 y2 y3 y4))
 | 0 => ⟨fun _ _ _ _ r h => by simp [spec_l2Complete.l0] at h, fun _ _ _ _ _ r h => by simp [spec_l2Complete.l1] at h⟩
 | k + 1 => by
  obtain ⟨ih0, ih1⟩ := spec_l2Complete.mono_l k
  refine ⟨?_, ?_⟩
  ·intro y0 y1 y2 y3
   unfold spec_l2Complete.l0
   repeat' first
   | (with_reducible exact ih0 _ _ _ _)
   | (with_reducible exact ih1 _ _ _ _ _)
   | (with_reducible exact LeO.refl _)
   | (with_reducible exact LeO.none _)
   | (with_reducible refine LeO.ite ?_ ?_)
   | (with_reducible refine LeO.bind ?_ (fun _ => ?_))
   | exact ih0 _ _ _ _
   | exact ih1 _ _ _ _ _
   | exact LeO.none _
   | refine LeO.ite ?_ ?_
   | refine LeO.bind ?_ (fun _ => ?_)
  ·intro y0 y1 y2 y3 y4
   unfold spec_l2Complete.l1
   repeat' first
   | (with_reducible exact ih0 _ _ _ _)
   | (with_reducible exact ih1 _ _ _ _ _)
   | (with_reducible exact LeO.refl _)
   | (with_reducible exact LeO.none _)
   | (with_reducible refine LeO.ite ?_ ?_)
   | (with_reducible refine LeO.bind ?_ (fun _ => ?_))
   | exact ih0 _ _ _ _
   | exact ih1 _ _ _ _ _
   | exact LeO.none _
   | refine LeO.ite ?_ ?_
   | refine LeO.bind ?_ (fun _ => ?_)
theorem spec_l2Complete.mono : ∀ a0 k, LeO (spec_l2Complete.f k a0) (spec_l2Complete.f (k + 1) a0) := by
 intro a0 k
 obtain ⟨ih0, ih1⟩ := spec_l2Complete.mono_l k
 unfold spec_l2Complete.f
 repeat' first
   | (with_reducible exact ih0 _ _ _ _)
   | (with_reducible exact ih1 _ _ _ _ _)
   | (with_reducible exact LeO.refl _)
   | (with_reducible exact LeO.none _)
   | (with_reducible refine LeO.ite ?_ ?_)
   | (with_reducible refine LeO.bind ?_ (fun _ => ?_))
   | exact ih0 _ _ _ _
   | exact ih1 _ _ _ _ _
   | exact LeO.none _
   | refine LeO.ite ?_ ?_
   | refine LeO.bind ?_ (fun _ => ?_)
set_option maxHeartbeats 8000000 in
set_option maxRecDepth 100000 in
theorem spec_l2Complete.calls (k : Nat) (a0 : Int) (r1 : Int) (r2 : List (S119)) (w : World) (h : spec_l2Complete.f k a0 = some (r1, r2)) :
  Calls Try.prog 134 #[.int .i64 a0] w fun e w' => ∃ v1_ : Value, e = .returned (.agg #[.int .i64 r1, v1_]) ∧ Kd.R k119 119 w' w.heap.size (fun _ => True) v1_ r2 ∧ Below w.heap.size w w' := by
 have hu31 := Try.underlying31
 have hu119 := Try.underlying119
 have HB := Aside0.mk (Below.refl w.heap.size w)
 have H : (spec_l2Complete.l0 k a0 0 a0 (([] : List (S119)))) = some (r1, r2) := h
 clear h
 obtain ⟨y474, hy474⟩ : ∃ y_ : List (S119), y_ = (([] : List (S119))) := ⟨_, rfl⟩
 replace H : (spec_l2Complete.l0 k a0 0 a0 y474) = some (r1, r2) := by first | (rw [hy474]; with_reducible exact H) | (have H2_ := (Option.bind_some _ _).symm.trans H; rw [hy474]; with_reducible exact H2_) | (have H2_ := (Option.bind_some _ _).symm.trans H; with_reducible exact H2_) | with_reducible exact H | (rw [hy474]; exact H) | exact H
 have Ny474 := Aside0.mk hy474
 clear hy474
 have H' := Aside0.mk H
 clear H
 go_enter Try.func134, Try.ntmps134
 go_wp2_with (first | ((with_reducible refine gate_dst (N := 2) rfl ?_); refine box_event ?hg (N := 2) ?hd (cs := #[.int .i64 0, .slice none 0 0]) (t := 31) ?hr ?_; (case hd => rfl); (case hg => rfl); (case hr => first | (go_simp; done) | (go_simp; rfl)); intro gb473 hg w2 hbox hb; have n0_ := Aside0.mk (below_step (by exact bB) hb); have n1_ := Aside0.mk (hbox); have n2_ := Aside0.mk ((by rw [hg]; exact (below_size (by exact bB)) : w.heap.size ≤ gb473)); have n3_ := Aside0.mk ((by rw [hg]; exact (below_size (by exact bB)) : w.heap.size ≤ gb473)); clear HB; have HB := n0_; have BK473 := n1_; have GW473 := n2_; have GE473 := n3_; clear n0_ n1_ n2_ n3_; clear hb hbox hg) | ((with_reducible refine gate_dst (N := 7) rfl ?_); refine Kd.R_lit k119 _ 119 ?hg (N := 7) ?hd (xs := ([] : List (S119))) (inner := []) (ok := fun _ => True) (okp := fun _ => True) ?hr ?hp (fun _ hk => hk) trivial (Below.refl _ _) (Nat.le_refl _) (by simp) ?_; (case hd => rfl); (case hg => rfl); (case hr => first | (go_simp; done) | (go_simp; rfl)); (case hp => exact (Reps.none _ _)); intro v475 w3 ho4 hb hg_ hnew_; clear hg_ hnew_; (first | rw [← Ny474.out] at ho4 | (simp only [Int.reduceToNat] at ho4; rw [← Ny474.out] at ho4)); have n0_ := Aside0.mk (Kd.R_lower ho4 (below_size (by exact bB))); have n1_ := Aside0.mk (blk_below (g := gb473) (o := .cells #[.int .i64 0, .slice none 0 0] 31 (0, 0)) (by exact kP BK473.out) hb); have n2_ := Aside0.mk (below_step (by exact bB) hb); clear BK473; clear HB; have HO476 := n0_; have BK473 := n1_; have HB := n2_; clear n0_ n1_ n2_; clear hb ho4; obtain ⟨Ao5, co5, eo5⟩ := Kd.R_slice HO476.out; subst eo5) | ((with_reducible refine gate_dst (N := 3) rfl ?_); refine box_event ?hg (N := 3) ?hd (cs := #[.int .i64 0, .slice none 0 0]) (t := 31) ?hr ?_; (case hd => rfl); (case hg => rfl); (case hr => first | (go_simp; done) | (go_simp; rfl)); intro gb477 hg w6 hbox hb; have n0_ := Aside0.mk (Kd.R_below (by exact rP HO476.out) hb); have n1_ := Aside0.mk (blk_below (g := gb473) (o := .cells #[.int .i64 0, .slice none 0 0] 31 (0, 0)) (by exact kP BK473.out) hb); have n2_ := Aside0.mk (below_step (by exact bB) hb); have n3_ := Aside0.mk (hbox); have n4_ := Aside0.mk ((by rw [hg]; exact (below_size (by exact bB)) : w.heap.size ≤ gb477)); have n5_ := Aside0.mk ((by rw [hg]; exact (below_size (by exact bB)) : w.heap.size ≤ gb477)); have n6_ := Aside0.mk ((by rw [hg]; exact Nat.ne_of_lt (blk_lt (g := gb473) (o := .cells #[.int .i64 0, .slice none 0 0] 31 (0, 0)) (by exact kP BK473.out)) : gb473 ≠ gb477)); have n7_ := Aside0.mk ((by rw [hg]; exact Nat.ne_of_gt (blk_lt (g := gb473) (o := .cells #[.int .i64 0, .slice none 0 0] 31 (0, 0)) (by exact kP BK473.out)) : gb477 ≠ gb473)); clear HO476; clear BK473; clear HB; have HO476 := n0_; have BK473 := n1_; have HB := n2_; have BK477 := n3_; have GW477 := n4_; have GE477 := n5_; have NB473_477 := n6_; have NB477_473 := n7_; clear n0_ n1_ n2_ n3_ n4_ n5_ n6_ n7_; clear hb hbox hg; have hnb7 := NB477_473.out; have hnc7 := NB473_477.out; have hcz8_0 : w6.cell? ⟨gb477, 0, none⟩ = some (.int .i64 0) := (blk_cell BK477.out 0).trans rfl; have hcz8_1 : w6.cell? ⟨gb477, 1, none⟩ = some (.slice none 0 0) := (blk_cell BK477.out 1).trans rfl; have hfz8_0 := blk_frozen BK477.out 0; have hfz8_1 := blk_frozen BK477.out 1))
 go_loopg [4] k (fun kq v4 w' => ∃ (x4_1 : Int) (x478001_1 : List (S119)) (u478001 : Value), v4 = .int .i64 x4_1 ∧ Aside0 (spec_l2Complete.l0 kq a0 x4_1 a0 x478001_1 = some (r1, r2)) ∧ Aside0 (kq ≤ k) ∧ Aside0 (Kd.R k119 119 w' w.heap.size (fun _ => True) u478001 x478001_1) ∧ Aside0 (w'.heap[gb473]? = some (.cells #[.int .i64 0, (.slice none 0 0)] 31 (0, 0))) ∧ Aside0 (w'.heap[gb477]? = some (.cells #[.int .i64 a0, u478001] 31 (0, 0))) ∧ Aside0 (Below w.heap.size w w'))
 case atStart => exact ⟨(0), (y474), (.slice Ao5 y474.length co5), (by first | rfl | (simp; done) | (simp [*]; done)), H', ⟨Nat.le_refl _⟩, ⟨by refine rP ?_; exact Kd.R_mono (Kd.R_far (p := ⟨gb477, 1, none⟩) (Kd.R_far (p := ⟨gb477, 0, none⟩) (Kd.R_types HO476.out BK477.out (by decide)) (fun _ hk => hk.2) (.int .i64 a0)) (fun _ hk => hk.2) (.slice Ao5 y474.length co5)) (fun _ hk => trivial)⟩, ⟨by refine kP ?_; refine blk_far ?_ NB473_477.out _; refine kP ?_; refine blk_far ?_ NB473_477.out _; exact kP BK473.out⟩, ⟨by refine kP ?_; refine blk_put (cs := #[.int .i64 a0, .slice none 0 0]) ?_ 1 _ rfl; refine kP ?_; refine blk_put (cs := #[.int .i64 0, .slice none 0 0]) ?_ 0 _ rfl; exact kP BK477.out⟩, ⟨by exact bB⟩⟩
 case round =>
  clear H'
  try clear c1
  try clear p2
  try clear c7
  try clear hcz8_0
  try clear hcz8_1
  try clear hfz8_0
  try clear hfz8_1
  obtain ⟨x4_1, x478001_1, u478001, rfl, HA, HK1, HO_478001, BK473, BK477, HB⟩ := hrel
  cases gk with
  | zero => exact absurd HA.out (by simp [spec_l2Complete.l0])
  | succ k1 =>
   have H := HA.out
   clear HA
   simp only [spec_l2Complete.l0] at H
   by_cases c9 : x4_1 < a0
   ·rw [if_pos c9] at H
    have c9b0 : decide (x4_1 < a0) = true := decide_eq_true c9
    clear c9
    have H' := Aside0.mk H
    clear H
    go_wp2
    go_loopg [5] k1 (fun kq v5 w' => ∃ (x5_2 : Int) (x478001_2 : List (S119)) (u478001 : Value), v5 = .int .i64 x5_2 ∧ Aside0 (spec_l2Complete.l1 kq a0 x4_1 x5_2 a0 x478001_2 = some (r1, r2)) ∧ Aside0 (kq ≤ k1) ∧ Aside0 (Kd.R k119 119 w' w.heap.size (fun _ => True) u478001 x478001_2) ∧ Aside0 (w'.heap[gb473]? = some (.cells #[.int .i64 0, (.slice none 0 0)] 31 (0, 0))) ∧ Aside0 (w'.heap[gb477]? = some (.cells #[.int .i64 a0, u478001] 31 (0, 0))) ∧ Aside0 (Below w.heap.size w w'))
    case atStart => exact ⟨(wrap64 (x4_1 + 1)), (x478001_1), (u478001), (by first | rfl | (simp; done) | (simp [*]; done)), H', ⟨Nat.le_refl _⟩, ⟨by exact rP HO_478001.out⟩, ⟨by exact kP BK473.out⟩, ⟨by exact kP BK477.out⟩, ⟨by exact bB⟩⟩
    case round =>
     clear H'
     try clear c1
     try clear p2
     try clear p6
     try clear c7
     try clear c9
     try clear c9b0
     try clear hcz8_0
     try clear hcz8_1
     try clear hfz8_0
     try clear hfz8_1
     try clear p2
     obtain ⟨x5_2, x478001_2, u478001, rfl, HA, HK2, HO_478001, BK473, BK477, HB⟩ := hrel
     cases gk with
     | zero => exact absurd HA.out (by simp [spec_l2Complete.l1])
     | succ k2 =>
      have H := HA.out
      clear HA
      simp only [spec_l2Complete.l1] at H
      by_cases c10 : x5_2 < a0
      ·rw [if_pos c10] at H
       have c10b0 : decide (x5_2 < a0) = true := decide_eq_true c10
       clear c10
       by_cases c11 : x478001_2.length < 8796093022208
       ·rw [if_pos c11] at H
        have LMc11 := Aside0.mk c11
        clear c11
        obtain ⟨y478, hy478⟩ : ∃ y_ : List (S119), y_ = (x478001_2 ++ [(⟨x4_1, x5_2⟩ : S119)]) := ⟨_, rfl⟩
        replace H : (spec_l2Complete.l1 k2 a0 x4_1 (wrap64 (x5_2 + 1)) a0 y478) = some (r1, r2) := by first | (rw [hy478]; with_reducible exact H) | (have H2_ := (Option.bind_some _ _).symm.trans H; rw [hy478]; with_reducible exact H2_) | (have H2_ := (Option.bind_some _ _).symm.trans H; with_reducible exact H2_) | with_reducible exact H | (rw [hy478]; exact H) | exact H
        have Ny478 := Aside0.mk hy478
        clear hy478
        have H' := Aside0.mk H
        clear H
        have hnb12 := NB477_473.out
        have hnc12 := NB473_477.out
        have hcz13_0 : wr.cell? ⟨gb477, 0, none⟩ = some (.int .i64 a0) := (blk_cell BK477.out 0).trans rfl
        have hcz13_1 : wr.cell? ⟨gb477, 1, none⟩ = some (u478001) := (blk_cell BK477.out 1).trans rfl
        have hfz13_0 := blk_frozen BK477.out 0
        have hfz13_1 := blk_frozen BK477.out 1
        go_wp2_with (first | ((with_reducible refine gate_builtin (b := .append) (xs := #[.tmp 22, .tmp 26]) rfl ?_); at_builtin; refine Kd.R_append k119 (w0 := w) w.heap.size rfl (.tmp 22) (.tmp 26) 22 119 (.agg #[(.int .i64 0), (.int .i64 0)]) 16 rfl Try.underlying22 info119 rfl (by decide) (by omega) u478001 x478001_2 (⟨x4_1, x5_2⟩ : S119) [.int .i64 x4_1, .int .i64 x5_2] (fun _ => True) (fun _ => False) rfl rfl ?aP (fun _ hk => hk.elim) ?aF ?aO ?aB ?aS ?aL ?_; (case aP => exact k119_mkM _ _ _ (⟨x4_1, x5_2⟩ : S119)); (case aB => exact (by exact bB)); (case aF => exact (fun _ _ => trivial)); (case aO => exact (by exact rP HO_478001.out)); (case aS => exact (below_size (by exact bB))); (case aL => have := LMc11.out; omega); intro v479 w14 ho hb hg hat; rw [← Ny478.out] at ho; have n0_ := Aside0.mk (blk_grown (g := gb473) (o := .cells #[.int .i64 0, .slice none 0 0] 31 (0, 0)) (by exact kP BK473.out) hg (Kd.R_ne HO_478001.out BK473.out (by decide))); have n1_ := Aside0.mk (blk_grown (g := gb477) (o := .cells #[.int .i64 a0, u478001] 31 (0, 0)) (by exact kP BK477.out) hg (Kd.R_ne HO_478001.out BK477.out (by decide))); have n2_ := Aside0.mk (hb); have n3_ := Aside0.mk (ho); clear BK473; clear BK477; clear HB; clear HO_478001; have BK473 := n0_; have BK477 := n1_; have HB := n2_; have HO480 := n3_; clear n0_ n1_ n2_ n3_; clear ho hb hg hat; obtain ⟨Ao15, co15, eo15⟩ := Kd.R_slice HO480.out; subst eo15; have hcz16_0 : w14.cell? ⟨gb477, 0, none⟩ = some (.int .i64 a0) := (blk_cell BK477.out 0).trans rfl; have hcz16_1 : w14.cell? ⟨gb477, 1, none⟩ = some (u478001) := (blk_cell BK477.out 1).trans rfl; have hfz16_0 := blk_frozen BK477.out 0; have hfz16_1 := blk_frozen BK477.out 1))
        go_roundg k2
        case measure => have := HK1.out; have := HK2.out; omega
        case rel => exact ⟨(wrap64 (x5_2 + 1)), (y478), (.slice Ao15 y478.length co15), (by first | rfl | (simp; done) | (simp [*]; done)), H', ⟨by have := HK1.out; have := HK2.out; omega⟩, ⟨by refine rP ?_; exact Kd.R_mono (Kd.R_far (p := ⟨gb477, 1, none⟩) (Kd.R_types HO480.out BK477.out (by decide)) (fun _ hk => hk.2) (.slice Ao15 y478.length co15)) (fun _ hk => trivial)⟩, ⟨by refine kP ?_; refine blk_far ?_ NB473_477.out _; exact kP BK473.out⟩, ⟨by refine kP ?_; refine blk_put (cs := #[.int .i64 a0, u478001]) ?_ 1 _ rfl; exact kP BK477.out⟩, ⟨by exact bB⟩⟩
       ·rw [if_neg c11] at H
        exact absurd H (by simp)
      ·rw [if_neg c10] at H
       have c10b0 : decide (x5_2 < a0) = false := decide_eq_false c10
       clear c10
       have H' := Aside0.mk H
       clear H
       go_wp2
       go_roundg k2
       case measure => have := HK1.out; have := HK2.out; omega
       case rel => exact ⟨(wrap64 (x4_1 + 1)), (x478001_2), (u478001), (by first | rfl | (simp; done) | (simp [*]; done)), H', ⟨by have := HK1.out; have := HK2.out; omega⟩, ⟨by exact rP HO_478001.out⟩, ⟨by exact kP BK473.out⟩, ⟨by exact kP BK477.out⟩, ⟨by exact bB⟩⟩
   ·rw [if_neg c9] at H
    have c9b0 : decide (x4_1 < a0) = false := decide_eq_false c9
    clear c9
    simp only [Option.some.injEq, Prod.mk.injEq] at H
    obtain ⟨rfl, rfl⟩ := H
    have hnb17 := NB477_473.out
    have hnc17 := NB473_477.out
    have hcz18_0 : wr.cell? ⟨gb477, 0, none⟩ = some (.int .i64 a0) := (blk_cell BK477.out 0).trans rfl
    have hcz18_1 : wr.cell? ⟨gb477, 1, none⟩ = some (u478001) := (blk_cell BK477.out 1).trans rfl
    have hfz18_0 := blk_frozen BK477.out 0
    have hfz18_1 := blk_frozen BK477.out 1
    have hcz19_0 : wr.cell? ⟨gb473, 0, none⟩ = some (.int .i64 0) := (blk_cell BK473.out 0).trans rfl
    have hcz19_1 : wr.cell? ⟨gb473, 1, none⟩ = some (.slice none 0 0) := (blk_cell BK473.out 1).trans rfl
    have hfz19_0 := blk_frozen BK473.out 0
    have hfz19_1 := blk_frozen BK473.out 1
    obtain ⟨Ao20, co20, eo20⟩ := Kd.R_slice HO_478001.out
    subst eo20
    go_wp2
    refine bodyPost_ret (results_cell_row rfl _ _ gb473 31 #[.int .i64 a0, .slice Ao20 x478001_1.length co20] (0, 0) _ rfl (by refine kP ?_; refine blk_put (cs := #[.int .i64 a0, .slice none 0 0]) ?_ 1 _ rfl; refine kP ?_; refine blk_put (cs := #[.int .i64 0, .slice none 0 0]) ?_ 0 _ rfl; exact kP BK473.out) Try.underlying31 rfl (by kernel_rfl)) rfl ?_
    exact ⟨_, by first | rfl | (simp [errW_none, errW_some] <;> rfl) | (simp [*, errW_none, errW_some] <;> rfl), by refine rP ?_; exact Kd.R_mono (Kd.R_far (p := ⟨gb473, 1, none⟩) (Kd.R_far (p := ⟨gb473, 0, none⟩) (Kd.R_types HO_478001.out BK473.out (by decide)) (fun _ hk => hk.2) (.int .i64 a0)) (fun _ hk => hk.2) (.slice Ao20 x478001_1.length co20)) (fun _ hk => trivial), by exact bB⟩


end Go.Proofs.Ytmokkhfmbenleaa.QClosures
