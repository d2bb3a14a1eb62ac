import Derived.Test.YtmokkhfmbenleaaQClosures0
import Derived.Test.YtmokkhfmbenleaaQClosures5
import Derived.Test.YtmokkhfmbenleaaQClosures6
import Derived.Test.YtmokkhfmbenleaaQClosures10
namespace Go.Proofs.Ytmokkhfmbenleaa.QClosures
open Go.RowKit Go.Proofs.YtmokkhfmbenleaaW.PrintWords Go.Proofs.YtmokkhfmbenleaaW.PrintLast Go.Proofs.YtmokkhfmbenleaaW.PrintMore
attribute [local go_sem] max2_int min2_int max_two min_two max_three min_three max_four min_four   -- for this text's walks alone
set_option linter.unusedVariables false
set_option linter.unusedSimpArgs false
/-! ### spec_l1Cur_graph: function 140 -/
def spec_l1Cur_graph.f (k : Nat) (s0_0 : List Int) (s0_1 : Int) (s0_2 : Int) : Option (Int × (List (S119)) × Int × Int) := (spec_l1Cur_someGraph.f k s0_0 s0_1 s0_2 6).bind fun bt595 => (some (bt595.1, bt595.2.1, bt595.2.2.1, bt595.2.2.2))
theorem spec_l1Cur_graph.mono : ∀ a0 a1 a2 k, LeO (spec_l1Cur_graph.f k a0 a1 a2) (spec_l1Cur_graph.f (k + 1) a0 a1 a2) := by
 intro a0 a1 a2 k
 unfold spec_l1Cur_graph.f
 repeat' first
   | (with_reducible exact spec_l1Cur_someGraph.mono _ _ _ _ _)
   | (with_reducible exact LeO.refl _)
   | (with_reducible exact LeO.none _)
   | (with_reducible refine LeO.ite ?_ ?_)
   | (with_reducible refine LeO.bind ?_ (fun _ => ?_))
   | exact spec_l1Cur_someGraph.mono _ _ _ _ _
   | exact LeO.none _
   | refine LeO.ite ?_ ?_
   | refine LeO.bind ?_ (fun _ => ?_)
set_option maxHeartbeats 8000000 in
set_option maxRecDepth 100000 in
theorem spec_l1Cur_graph.calls (k : Nat) (g : Nat) (s0_0 : List Int) (s0_1 : Int) (s0_2 : Int) (r1 : Int) (r2 : List (S119)) (r3 : Int) (r4 : Int) (w0 w : World) (hI : IsS91 w0 w g s0_0 s0_1 s0_2) (hB : Below w0.heap.size w0 w) (h : spec_l1Cur_graph.f k s0_0 s0_1 s0_2 = some (r1, r2, r3, r4)) :
  Calls Try.prog 140 #[.pointer (some ⟨g, 0, none⟩)] w fun e w' => ∃ v1_ : Value, e = .returned (.agg #[.int .i64 r1, v1_]) ∧ Kd.R k119 119 w' w.heap.size (fun _ => True) v1_ r2 ∧ IsS91 w0 w' g s0_0 r3 r4 ∧ Below w0.heap.size w0 w' ∧ KeepBut w w' g none := by
 have hu31 := Try.underlying31
 have HI0 := Aside0.mk hI
 have HK := Aside0.mk (KeepBut.refl w g none)
 have HL := Aside0.mk hB.size
 clear hI
 have HW0 := Aside0.mk hB.size
 have HB := Aside0.mk hB
 clear hB
 have H : ((spec_l1Cur_someGraph.f k s0_0 s0_1 s0_2 6).bind fun bt595 => (some (bt595.1, bt595.2.1, bt595.2.2.1, bt595.2.2.2))) = some (r1, r2, r3, r4) := h
 clear h
 replace H := Option.bind_eq_some_iff.mp H
 obtain ⟨⟨t595, t596, t599, t600⟩, A20, H⟩ := H
 replace H : (some (t595, t596, t599, t600)) = some (r1, r2, r3, r4) := H
 have A2 := Aside0.mk A20
 clear A20
 simp only [Option.some.injEq, Prod.mk.injEq] at H
 obtain ⟨rfl, rfl, rfl, rfl⟩ := H
 go_enter Try.func140, Try.ntmps140
 go_wp2_with (first | ((with_reducible refine gate_dst (N := 2) rfl ?_); refine box_event ?hg (N := 2) ?hd (cs := #[.int .i64 0, .slice none 0 0]) (t := 31) ?hr ?_; (case hd => rfl); (case hg => rfl); (case hr => first | (go_simp; done) | (go_simp; rfl)); intro gb594 hg w3 hbox hb; have n0_ := Aside0.mk (IsS91.below (by repeat (first | (with_reducible first | exact HI0.out | apply IsS91.alloc | apply IsS91.drewN | apply IsS91.drew | apply IsS91.set_1 | apply IsS91.set_2) | exact HI0.out)) hb); have n1_ := Aside0.mk (KeepBut.trans (by exact kK) (KeepBut.of_below hb g none) (.inl rfl)); have n2_ := Aside0.mk (below_step (by exact bB) hb); have n3_ := Aside0.mk (hbox); have n4_ := Aside0.mk ((by rw [hg]; exact (keep_size (w := w) (g := g) (row := none) (by exact kK)) : w.heap.size ≤ gb594)); have n5_ := Aside0.mk ((Nat.le_trans HW0.out (by rw [hg]; exact (keep_size (w := w) (g := g) (row := none) (by exact kK)) : w.heap.size ≤ gb594) : w0.heap.size ≤ gb594)); have n6_ := Aside0.mk ((by rw [hg]; exact Nat.ne_of_lt (IsS91.lt (show IsS91 w0 _ g s0_0 s0_1 s0_2 from by exact sS)) : g ≠ gb594)); have n7_ := Aside0.mk ((by rw [hg]; exact Nat.ne_of_gt (IsS91.lt (show IsS91 w0 _ g s0_0 s0_1 s0_2 from by exact sS)) : gb594 ≠ g)); clear HI0; clear HK; clear HB; have HI0 := n0_; have HK := n1_; have HB := n2_; have BK594 := n3_; have GW594 := n4_; have GE594 := n5_; have NB0_594 := n6_; have NB594_0 := n7_; clear n0_ n1_ n2_ n3_ n4_ n5_ n6_ n7_; clear hb hbox hg) | ((with_reducible refine gate_callee (f := 79) rfl ?_); refine goesL_ (some 4) rfl rfl Try.func79 (by kernel_rfl) rfl #[.pointer (some ⟨g, 0, none⟩), .int .i64 6] rfl (by (try simp only [List.map_toArray, List.map_cons, List.map_nil]); first | done | rfl | (simp only [List.length_drop, List.length_take]; rfl)) ?_; (with_reducible refine (spec_l1Cur_someGraph.calls k g s0_0 s0_1 s0_2 6 t595 t596 t599 t600 w0 _ ?side1 ?side2 A2.out).mono ?_); (case side1 => exact sS); (case side2 => exact bB); rintro e w4 ⟨v597, rfl, ho0, hi, hb, hk⟩; refine ⟨_, rfl, ?_⟩; have n0_ := Aside0.mk (KeepBut.blk hk (g' := gb594) (o := .cells #[.int .i64 0, .slice none 0 0] 31 (0, 0)) (by exact kP BK594.out) NB594_0.out (by simp)); have n1_ := Aside0.mk (Kd.R_lower ho0 (keep_size (w := w) (g := g) (row := none) (by exact kK))); have n2_ := Aside0.mk (KeepBut.trans (by exact kK) hk (.inl rfl)); have n3_ := Aside0.mk (hb); have n4_ := Aside0.mk (hi); clear BK594; clear HK; clear HB; clear HI0; have BK594 := n0_; have HO598 := n1_; have HK := n2_; have HB := n3_; have HI0 := n4_; clear n0_ n1_ n2_ n3_ n4_; (try clear hb); (try clear hb2); (try clear hk); (try clear hi); (try clear ho0); have hnb5 := NB594_0.out; have hnc5 := NB0_594.out; have hcz6_0 : w4.cell? ⟨gb594, 0, none⟩ = some (.int .i64 0) := (blk_cell BK594.out 0).trans rfl; have hcz6_1 : w4.cell? ⟨gb594, 1, none⟩ = some (.slice none 0 0) := (blk_cell BK594.out 1).trans rfl; have hfz6_0 := blk_frozen BK594.out 0; have hfz6_1 := blk_frozen BK594.out 1; obtain ⟨Ao7, co7, eo7⟩ := Kd.R_slice HO598.out; subst eo7))
 refine bodyPost_ret (results_cell_row rfl _ _ gb594 31 #[.int .i64 t595, .slice Ao7 t596.length co7] (0, 0) _ rfl (by refine kP ?_; refine blk_put (cs := #[.int .i64 t595, .slice none 0 0]) ?_ 1 _ rfl; refine kP ?_; refine blk_put (cs := #[.int .i64 0, .slice none 0 0]) ?_ 0 _ rfl; exact kP BK594.out) Try.underlying31 rfl (by kernel_rfl)) rfl ?_
 exact ⟨_, by first | rfl | (simp [errW_none, errW_some] <;> rfl) | (simp [*, errW_none, errW_some] <;> rfl), by refine rP ?_; exact Kd.R_mono (Kd.R_far (p := ⟨gb594, 1, none⟩) (Kd.R_far (p := ⟨gb594, 0, none⟩) (Kd.R_types HO598.out BK594.out (by decide)) (fun _ hk => hk.2) (.int .i64 t595)) (fun _ hk => hk.2) (.slice Ao7 t596.length co7)) (fun _ hk => trivial), by exact sS, by exact bB, by exact kK⟩




/-! ### spec_DrawForceOnce: function 85 -/
def spec_DrawForceOnce.f (k : Nat) (l0 : List Int) : Option (Int × (List (S119)) × List Int) := (spec_newCur.f l0).bind fun bt602 => ((spec_l1Cur_graph.f k bt602.1 bt602.2.1 bt602.2.2).bind fun bt606 => ((spec_l1Cur_nodes.f k bt602.1 bt606.2.2.1 bt606.2.2.2 bt606.1 bt606.2.1).bind fun bt613 => (some (bt606.1, bt606.2.1, bt613.1))))
theorem spec_DrawForceOnce.mono : ∀ a0 k, LeO (spec_DrawForceOnce.f k a0) (spec_DrawForceOnce.f (k + 1) a0) := by
 intro a0 k
 unfold spec_DrawForceOnce.f
 repeat' first
   | (with_reducible exact spec_l1Cur_graph.mono _ _ _ _)
   | (with_reducible exact spec_l1Cur_nodes.mono _ _ _ _ _ _)
   | (with_reducible exact LeO.refl _)
   | (with_reducible exact LeO.none _)
   | (with_reducible refine LeO.ite ?_ ?_)
   | (with_reducible refine LeO.bind ?_ (fun _ => ?_))
   | exact spec_l1Cur_graph.mono _ _ _ _
   | exact spec_l1Cur_nodes.mono _ _ _ _ _ _
   | exact LeO.none _
   | refine LeO.ite ?_ ?_
   | refine LeO.bind ?_ (fun _ => ?_)
set_option maxHeartbeats 8000000 in
set_option maxRecDepth 100000 in
theorem spec_DrawForceOnce.calls (k : Nat) (A0 : Option Addr) (c0 : Nat) (l0 : List Int) (r1 : Int) (r2 : List (S119)) (r3 : List Int) (w : World) (hr0 : Kd.C (Kd.int .u8) w A0 l0.length l0) (hc0 : l0.length ≤ c0) (h : spec_DrawForceOnce.f k l0 = some (r1, r2, r3)) :
  Calls Try.prog 85 #[.slice A0 l0.length c0] w fun e w' => ∃ v1_ v2_ : Value, e = .returned (.tuple #[.agg #[.int .i64 r1, v1_], v2_]) ∧ Kd.R k119 119 w' w.heap.size (fun _ => True) v1_ r2 ∧ Kd.R (Kd.int .i64) 3 w' w.heap.size (fun _ => True) v2_ r3 ∧ Below w.heap.size w w' := by
 have hu31 := Try.underlying31
 have HR0 := Aside0.mk hr0
 have HC0 := Aside0.mk hc0
 clear hr0 hc0
 have HB := Aside0.mk (Below.refl w.heap.size w)
 have H : ((spec_newCur.f l0).bind fun bt602 => ((spec_l1Cur_graph.f k bt602.1 bt602.2.1 bt602.2.2).bind fun bt606 => ((spec_l1Cur_nodes.f k bt602.1 bt606.2.2.1 bt606.2.2.2 bt606.1 bt606.2.1).bind fun bt613 => (some (bt606.1, bt606.2.1, bt613.1))))) = some (r1, r2, r3) := h
 clear h
 replace H : ((spec_l1Cur_graph.f k l0 0 0).bind fun bt606 => ((spec_l1Cur_nodes.f k l0 bt606.2.2.1 bt606.2.2.2 bt606.1 bt606.2.1).bind fun bt613 => (some (bt606.1, bt606.2.1, bt613.1)))) = some (r1, r2, r3) := H
 replace H := Option.bind_eq_some_iff.mp H
 obtain ⟨⟨t606, t607, t610, t611⟩, A30, H⟩ := H
 replace H : ((spec_l1Cur_nodes.f k l0 t610 t611 t606 t607).bind fun bt613 => (some (t606, t607, bt613.1))) = some (r1, r2, r3) := H
 have A3 := Aside0.mk A30
 clear A30
 replace H := Option.bind_eq_some_iff.mp H
 obtain ⟨⟨t613, t616, t617⟩, A40, H⟩ := H
 replace H : (some (t606, t607, t613)) = some (r1, r2, r3) := H
 have A4 := Aside0.mk A40
 clear A40
 simp only [Option.some.injEq, Prod.mk.injEq] at H
 obtain ⟨rfl, rfl, rfl⟩ := H
 go_enter Try.func85, Try.ntmps85
 try go_wp2_with (first | ((with_reducible refine gate_dst (N := 2) rfl ?_); refine box_event ?hg (N := 2) ?hd (cs := #[.int .i64 0, .slice none 0 0]) (t := 31) ?hr ?_; (case hd => rfl); (case hg => rfl); (case hr => first | (go_simp; done) | (go_simp; rfl)); intro gb601 hg w5 hbox hb; have n0_ := Aside0.mk (below_step (by exact bB) hb); have n1_ := Aside0.mk (hbox); have n2_ := Aside0.mk ((by rw [hg]; exact (below_size (by exact bB)) : w.heap.size ≤ gb601)); have n3_ := Aside0.mk ((by rw [hg]; exact (below_size (by exact bB)) : w.heap.size ≤ gb601)); clear HB; have HB := n0_; have BK601 := n1_; have GW601 := n2_; have GE601 := n3_; clear n0_ n1_ n2_ n3_; clear hb hbox hg) | ((with_reducible refine gate_dst (N := 8) rfl ?_); refine box_event ?hg (N := 8) ?hd (cs := #[.slice A0 l0.length c0, .int .i64 0, .int .u64 0]) (t := 91) ?hr ?_; (case hd => rfl); (case hg => rfl); (case hr => first | (go_simp; done) | (go_simp; rfl)); intro g605 hg w6 hbox hb2; have hi : IsS91 w w6 g605 l0 0 0 := ⟨_, _, hbox, by rw [hg]; exact below_size (by exact bB), HR0.out⟩; have hb := below_step (by exact bB) hb2; clear hbox hg; have n0_ := Aside0.mk (blk_below (g := gb601) (o := .cells #[.int .i64 0, .slice none 0 0] 31 (0, 0)) (by exact kP BK601.out) hb2); have n1_ := Aside0.mk (hb); have n2_ := Aside0.mk (hi); have n3_ := Aside0.mk (IsS91.ne_blk hi (blk_below (g := gb601) (o := .cells #[.int .i64 0, .slice none 0 0] 31 (0, 0)) (by exact kP BK601.out) hb2) (by decide)); have n4_ := Aside0.mk (Ne.symm (IsS91.ne_blk hi (blk_below (g := gb601) (o := .cells #[.int .i64 0, .slice none 0 0] 31 (0, 0)) (by exact kP BK601.out) hb2) (by decide))); clear BK601; clear HB; have BK601 := n0_; have HB := n1_; have HI605 := n2_; have NB605_601 := n3_; have NB601_605 := n4_; clear n0_ n1_ n2_ n3_ n4_; (try clear hb); (try clear hb2); (try clear hk); (try clear hi)) | ((with_reducible refine gate_callee (f := 140) rfl ?_); refine goesL_ (some 10) rfl rfl Try.func140 (by kernel_rfl) rfl #[.pointer (some ⟨g605, 0, none⟩)] rfl (by (try simp only [List.map_toArray, List.map_cons, List.map_nil]); first | done | rfl | (simp only [List.length_drop, List.length_take]; rfl)) ?_; (with_reducible refine (spec_l1Cur_graph.calls k g605 l0 0 0 t606 t607 t610 t611 w _ ?side1 ?side2 A3.out).mono ?_); (case side1 => exact sS); (case side2 => exact bB); rintro e w7 ⟨v608, rfl, ho0, hi, hb, hk⟩; refine ⟨_, rfl, ?_⟩; have n0_ := Aside0.mk (KeepBut.blk hk (g' := gb601) (o := .cells #[.int .i64 0, .slice none 0 0] 31 (0, 0)) (by exact kP BK601.out) NB601_605.out (by simp)); have n1_ := Aside0.mk (Kd.R_lower ho0 (below_size (by exact bB))); have n2_ := Aside0.mk (hb); have n3_ := Aside0.mk (hi); clear BK601; clear HB; clear HI605; have BK601 := n0_; have HO609 := n1_; have HB := n2_; have HI605 := n3_; clear n0_ n1_ n2_ n3_; (try clear hb); (try clear hb2); (try clear hk); (try clear hi); (try clear ho0)) | ((with_reducible refine gate_dst (N := 5) rfl ?_); refine box_event ?hg (N := 5) ?hd (cs := #[.int .i64 0, .slice none 0 0]) (t := 31) ?hr ?_; (case hd => rfl); (case hg => rfl); (case hr => first | (go_simp; done) | (go_simp; rfl)); intro gb612 hg w8 hbox hb; have n0_ := Aside0.mk (Kd.R_below (by exact rP HO609.out) hb); have n1_ := Aside0.mk (blk_below (g := gb601) (o := .cells #[.int .i64 0, .slice none 0 0] 31 (0, 0)) (by exact kP BK601.out) hb); have n2_ := Aside0.mk (IsS91.below (by repeat (first | (with_reducible first | exact HI605.out | apply IsS91.alloc | apply IsS91.drewN | apply IsS91.drew | apply IsS91.set_1 | apply IsS91.set_2 | refine IsS91.far ?_ NB605_601.out _) | exact HI605.out)) hb); have n3_ := Aside0.mk (below_step (by exact bB) hb); have n4_ := Aside0.mk (hbox); have n5_ := Aside0.mk ((by rw [hg]; exact (below_size (by exact bB)) : w.heap.size ≤ gb612)); have n6_ := Aside0.mk ((by rw [hg]; exact (below_size (by exact bB)) : w.heap.size ≤ gb612)); have n7_ := Aside0.mk ((by rw [hg]; exact Nat.ne_of_lt (blk_lt (g := gb601) (o := .cells #[.int .i64 0, .slice none 0 0] 31 (0, 0)) (by exact kP BK601.out)) : gb601 ≠ gb612)); have n8_ := Aside0.mk ((by rw [hg]; exact Nat.ne_of_gt (blk_lt (g := gb601) (o := .cells #[.int .i64 0, .slice none 0 0] 31 (0, 0)) (by exact kP BK601.out)) : gb612 ≠ gb601)); have n9_ := Aside0.mk ((by rw [hg]; exact Nat.ne_of_lt (IsS91.lt (show IsS91 w _ g605 l0 t610 t611 from by exact sS)) : g605 ≠ gb612)); have n10_ := Aside0.mk ((by rw [hg]; exact Nat.ne_of_gt (IsS91.lt (show IsS91 w _ g605 l0 t610 t611 from by exact sS)) : gb612 ≠ g605)); clear HO609; clear BK601; clear HI605; clear HB; have HO609 := n0_; have BK601 := n1_; have HI605 := n2_; have HB := n3_; have BK612 := n4_; have GW612 := n5_; have GE612 := n6_; have NB601_612 := n7_; have NB612_601 := n8_; have NB605_612 := n9_; have NB612_605 := n10_; clear n0_ n1_ n2_ n3_ n4_ n5_ n6_ n7_ n8_ n9_ n10_; clear hb hbox hg; have hnb9 := NB612_601.out; have hnc9 := NB601_612.out; have hnb10 := NB612_605.out; have hnc10 := NB605_612.out; have hcz11_0 : w8.cell? ⟨gb612, 0, none⟩ = some (.int .i64 0) := (blk_cell BK612.out 0).trans rfl; have hcz11_1 : w8.cell? ⟨gb612, 1, none⟩ = some (.slice none 0 0) := (blk_cell BK612.out 1).trans rfl; have hfz11_0 := blk_frozen BK612.out 0; have hfz11_1 := blk_frozen BK612.out 1; obtain ⟨Ao12, co12, eo12⟩ := Kd.R_slice HO609.out; subst eo12))
 have n0_ : Aside0 (Kd.R k119 119 ((w8.setCell ⟨gb612, 0, none⟩ (.int .i64 t606)).setCell ⟨gb612, 1, none⟩ (.slice Ao12 t607.length co12)) w.heap.size (fun _ => True) (.slice Ao12 t607.length co12) t607) := ⟨by refine rP ?_; exact Kd.R_mono (Kd.R_far (p := ⟨gb612, 1, none⟩) (Kd.R_far (p := ⟨gb612, 0, none⟩) (Kd.R_types HO609.out BK612.out (by decide)) (fun _ hk => hk.2) (.int .i64 t606)) (fun _ hk => hk.2) (.slice Ao12 t607.length co12)) (fun _ hk => trivial)⟩
 have n1_ : Aside0 (((w8.setCell ⟨gb612, 0, none⟩ (.int .i64 t606)).setCell ⟨gb612, 1, none⟩ (.slice Ao12 t607.length co12)).heap[gb601]? = some (.cells #[.int .i64 0, .slice none 0 0] 31 (0, 0))) := ⟨by refine kP ?_; refine blk_far ?_ NB601_612.out _; refine kP ?_; refine blk_far ?_ NB601_612.out _; exact kP BK601.out⟩
 have n2_ : Aside0 (((w8.setCell ⟨gb612, 0, none⟩ (.int .i64 t606)).setCell ⟨gb612, 1, none⟩ (.slice Ao12 t607.length co12)).heap[gb612]? = some (.cells #[.int .i64 t606, .slice Ao12 t607.length co12] 31 (0, 0))) := ⟨by refine kP ?_; refine blk_put (cs := #[.int .i64 t606, .slice none 0 0]) ?_ 1 _ rfl; refine kP ?_; refine blk_put (cs := #[.int .i64 0, .slice none 0 0]) ?_ 0 _ rfl; exact kP BK612.out⟩
 have n3_ : Aside0 (IsS91 w ((w8.setCell ⟨gb612, 0, none⟩ (.int .i64 t606)).setCell ⟨gb612, 1, none⟩ (.slice Ao12 t607.length co12)) g605 l0 t610 t611) := ⟨by exact sS⟩
 have n4_ : Aside0 (Below w.heap.size w ((w8.setCell ⟨gb612, 0, none⟩ (.int .i64 t606)).setCell ⟨gb612, 1, none⟩ (.slice Ao12 t607.length co12))) := ⟨by exact bB⟩
 (try clear HO609)
 (try clear BK601)
 (try clear BK612)
 (try clear HI605)
 (try clear HB)
 generalize ((w8.setCell ⟨gb612, 0, none⟩ (.int .i64 t606)).setCell ⟨gb612, 1, none⟩ (.slice Ao12 t607.length co12)) = w13 at n0_ n1_ n2_ n3_ n4_ ⊢
 have HO609 := n0_
 have BK601 := n1_
 have BK612 := n2_
 have HI605 := n3_
 have HB := n4_
 clear n0_ n1_ n2_ n3_ n4_
 have n0_ := Aside0.mk (Kd.R_drew HO609.out)
 have n1_ := Aside0.mk (blk_drew BK601.out)
 have n2_ := Aside0.mk (blk_drew BK612.out)
 have n3_ := Aside0.mk (IsS91.drew HI605.out)
 have n4_ := Aside0.mk (below_drew1 HB.out)
 clear HO609
 clear BK601
 clear BK612
 clear HI605
 clear HB
 have HO609 := n0_
 have BK601 := n1_
 have BK612 := n2_
 have HI605 := n3_
 have HB := n4_
 clear n0_ n1_ n2_ n3_ n4_
 refine start_ (n := 6) (S := fun w' => w'.cell? ⟨gb612, 0, none⟩ = some (.int .i64 t606) ∧ w'.cell? ⟨gb612, 1, none⟩ = some (.slice Ao12 t607.length co12)) (ds := []) #[false, false, false, false, false, false] (by kernel_rfl) rfl rfl ⟨(blk_cell BK612.out 0).trans rfl, (blk_cell BK612.out 1).trans rfl⟩ (fun hHeld => ?_)
 generalize w13.drew = w14 at HO609 BK601 BK612 HI605 HB hHeld ⊢
 refine pure_ (i := 1) (N := some 12) (v := ?_) (a' := ?_) #[false, true, false, false, false, false] rfl rfl (by kernel_rfl) (fun _ _ _ h => h) (Or.inl ⟨by rfl, ?_⟩) ?_ ?_
 rotate_left
 ·intro w'
  go_simp
  with_reducible rfl
 rotate_left
 ·simp only [Act.put, List.setIfInBounds_toArray, List.set_cons_zero, List.set_cons_succ, i64_w, i32_w]
  rfl
 refine take_ (i := 0) (N := some 11) (v := ?_) (a' := ?_) #[true, true, false, false, false, false] rfl rfl (by kernel_rfl) (fun _ _ _ h => h) (Or.inl ⟨by rfl, ?_⟩) hHeld ?_ ?_
 rotate_left
 ·rintro w' ⟨s0, s1⟩
  go_simp
  with_reducible rfl
 rotate_left
 ·simp only [Act.put, List.setIfInBounds_toArray, List.set_cons_zero, List.set_cons_succ, i64_w, i32_w]
  rfl
 refine take_ (i := 2) (N := some 13) (v := ?_) (a' := ?_) #[true, true, true, false, false, false] rfl rfl (by kernel_rfl) (fun _ _ _ h => h) (Or.inl ⟨by rfl, ?_⟩) hHeld ?_ ?_
 rotate_left
 ·rintro w' ⟨s0, s1⟩
  go_simp
  with_reducible rfl
 rotate_left
 ·simp only [Act.put, List.setIfInBounds_toArray, List.set_cons_zero, List.set_cons_succ, i64_w, i32_w]
  rfl
 refine one_ (i := 3) (N := some 14) #[true, true, true, true, false, false] rfl rfl (by kernel_rfl) (by decide) (fun K hK => ?_)
 refine goes_ Try.func95 (by kernel_rfl) rfl #[.pointer (some ⟨g605, 0, none⟩), .agg #[.int .i64 t606, .slice Ao12 t607.length co12]] (by rfl) rfl rfl (by (try simp only [List.map_toArray, List.map_cons, List.map_nil]); first | done | rfl | (simp only [List.length_drop, List.length_take]; rfl)) ?_
 with_reducible refine (spec_l1Cur_nodes.calls k g605 l0 t610 t611 t606 _ _ t607 t613 t616 t617 w _ ?side1 ?side2 ?side3 ?side4 A4.out).mono ?_
 (case side1 => exact sS)
 (case side2 => exact bB)
 (case side3 => exact Kd.C_foot_own (IsS91.apart (show IsS91 w _ g605 l0 t610 t611 from by exact sS) (by exact rP HO609.out) (by decide)) (fun _ h_ => h_.2))
 (case side4 => exact (Kd.R_reads' HO609.out).2.1)
 rintro e w15 ⟨v614, rfl, ho0, hi, hb, hk⟩
 refine ⟨_, rfl, ?_⟩
 have n0_ := Aside0.mk (KeepBut.blk hk (g' := gb601) (o := .cells #[.int .i64 0, .slice none 0 0] 31 (0, 0)) (by exact kP BK601.out) NB601_605.out (by simp))
 have n1_ := Aside0.mk (Kd.R_mono (Kd.R_keep (IsS91.apart (show IsS91 w _ g605 l0 t610 t611 from by exact sS) (by exact rP HO609.out) (by decide)) hk (fun _ h => h.2)) (fun _ h => h.1))
 have n2_ := Aside0.mk (KeepBut.blk hk (g' := gb612) (o := .cells #[.int .i64 t606, .slice Ao12 t607.length co12] 31 (0, 0)) (by exact kP BK612.out) NB612_605.out (by simp))
 have n3_ := Aside0.mk (Kd.R_lower ho0 (below_size (by exact bB)))
 have n4_ := Aside0.mk (hb)
 have n5_ := Aside0.mk (hi)
 clear BK601
 clear HO609
 clear BK612
 clear HB
 clear HI605
 have BK601 := n0_
 have HO609 := n1_
 have BK612 := n2_
 have HO615 := n3_
 have HB := n4_
 have HI605 := n5_
 clear n0_ n1_ n2_ n3_ n4_ n5_
 (try clear hb)
 (try clear hb2)
 (try clear hk)
 (try clear hi)
 (try clear ho0)
 refine hK.out _ _ ⟨(blk_cell BK612.out 0).trans rfl, (blk_cell BK612.out 1).trans rfl⟩ (fun hHeld => ?_)
 clear hK K
 refine norm_ (a' := ?_) ?_ ?_
 rotate_left
 ·show Act.put _ (some 14) _ = _
  simp only [Act.put, List.setIfInBounds_toArray, List.set_cons_zero, List.set_cons_succ, i64_w, i32_w]
  rfl
 refine one_ (i := 4) (N := none) #[true, true, true, true, true, false] rfl rfl (by kernel_rfl) (by decide) (fun K hK => ?_)
 have hs16 : w15.cell? ⟨gb601, 0, none⟩ = some (.int .i64 0) := (blk_cell BK601.out 0).trans rfl
 have hfs16 := blk_frozen BK601.out 0
 have hns16_1 := NB612_601.out
 have hms16_1 := NB601_612.out
 have hs17 : w15.cell? ⟨gb601, 1, none⟩ = some (.slice none 0 0) := (blk_cell BK601.out 1).trans rfl
 have hfs17 := blk_frozen BK601.out 1
 have hns17_1 := NB612_601.out
 have hms17_1 := NB601_612.out
 refine skip_ (w1 := ?_) (by rfl) rfl ?_ ?_
 rotate_left
 ·go_simp
  rfl
 refine hK.out _ _ ⟨((cell_far (p := ⟨gb601, _, none⟩) NB612_601.out _).trans (((cell_far (p := ⟨gb601, _, none⟩) NB612_601.out _).trans (hHeld.1)))), ((cell_far (p := ⟨gb601, _, none⟩) NB612_601.out _).trans (((cell_far (p := ⟨gb601, _, none⟩) NB612_601.out _).trans (hHeld.2))))⟩ (fun hHeld => ?_)
 clear hK K
 refine pure_ (i := 5) (N := some 3) (v := ?_) (a' := ?_) #[true, true, true, true, true, true] rfl rfl (by kernel_rfl) (fun _ _ _ h => h) (Or.inl ⟨by rfl, ?_⟩) ?_ ?_
 rotate_left
 ·intro w'
  go_simp
  with_reducible rfl
 rotate_left
 ·simp only [Act.put, List.setIfInBounds_toArray, List.set_cons_zero, List.set_cons_succ, i64_w, i32_w]
  rfl
 refine done_ (by kernel_rfl) ?_
 try go_wp2
 refine bodyPost_ret (results_ct rfl _ _ gb601 31 #[.int .i64 t606, .slice Ao12 t607.length co12] (0, 0) _ rfl (by refine kP ?_; refine blk_put (cs := #[.int .i64 t606, .slice none 0 0]) ?_ 1 _ rfl; refine kP ?_; refine blk_put (cs := #[.int .i64 0, .slice none 0 0]) ?_ 0 _ rfl; exact kP BK601.out) Try.underlying31 rfl (by kernel_rfl)) rfl ?_
 exact ⟨_, _, by first | rfl | (simp [errW_none, errW_some] <;> rfl) | (simp [*, errW_none, errW_some] <;> rfl), by refine rP ?_; exact Kd.R_mono (Kd.R_far (p := ⟨gb601, 1, none⟩) (Kd.R_far (p := ⟨gb601, 0, none⟩) (Kd.R_types HO609.out BK601.out (by decide)) (fun _ hk => hk.2) (.int .i64 t606)) (fun _ hk => hk.2) (.slice Ao12 t607.length co12)) (fun _ hk => trivial), by refine rP ?_; exact Kd.R_mono (Kd.R_far (p := ⟨gb601, 1, none⟩) (Kd.R_far (p := ⟨gb601, 0, none⟩) (Kd.R_types HO615.out BK601.out (by decide)) (fun _ hk => hk.2) (.int .i64 t606)) (fun _ hk => hk.2) (.slice Ao12 t607.length co12)) (fun _ hk => trivial), by exact bB⟩


/-! ### spec_DrawPowerAll: function 36 -/
def spec_DrawPowerAll.f (k : Nat) (l0 : List Int) : Option (Int × (List (S119)) × List Int) := (spec_DrawForceOnce.f k l0).bind fun bt619 => (some (bt619.1, bt619.2.1, bt619.2.2))
theorem spec_DrawPowerAll.mono : ∀ a0 k, LeO (spec_DrawPowerAll.f k a0) (spec_DrawPowerAll.f (k + 1) a0) := by
 intro a0 k
 unfold spec_DrawPowerAll.f
 repeat' first
   | (with_reducible exact spec_DrawForceOnce.mono _ _)
   | (with_reducible exact LeO.refl _)
   | (with_reducible exact LeO.none _)
   | (with_reducible refine LeO.ite ?_ ?_)
   | (with_reducible refine LeO.bind ?_ (fun _ => ?_))
   | exact spec_DrawForceOnce.mono _ _
   | exact LeO.none _
   | refine LeO.ite ?_ ?_
   | refine LeO.bind ?_ (fun _ => ?_)
set_option maxHeartbeats 8000000 in
set_option maxRecDepth 100000 in
theorem spec_DrawPowerAll.calls (k : Nat) (A0 : Option Addr) (c0 : Nat) (l0 : List Int) (r1 : Int) (r2 : List (S119)) (r3 : List Int) (w : World) (hr0 : Kd.C (Kd.int .u8) w A0 l0.length l0) (hc0 : l0.length ≤ c0) (h : spec_DrawPowerAll.f k l0 = some (r1, r2, r3)) :
  Calls Try.prog 36 #[.slice A0 l0.length c0] w fun e w' => ∃ v1_ v2_ : Value, e = .returned (.tuple #[.agg #[.int .i64 r1, v1_], v2_]) ∧ Kd.R k119 119 w' w.heap.size (fun _ => True) v1_ r2 ∧ Kd.R (Kd.int .i64) 3 w' w.heap.size (fun _ => True) v2_ r3 ∧ Below w.heap.size w w' := by
 have hu31 := Try.underlying31
 have HR0 := Aside0.mk hr0
 have HC0 := Aside0.mk hc0
 clear hr0 hc0
 have HB := Aside0.mk (Below.refl w.heap.size w)
 have H : ((spec_DrawForceOnce.f k l0).bind fun bt619 => (some (bt619.1, bt619.2.1, bt619.2.2))) = some (r1, r2, r3) := h
 clear h
 replace H := Option.bind_eq_some_iff.mp H
 obtain ⟨⟨t619, t620, t623⟩, A20, H⟩ := H
 replace H : (some (t619, t620, t623)) = some (r1, r2, r3) := H
 have A2 := Aside0.mk A20
 clear A20
 simp only [Option.some.injEq, Prod.mk.injEq] at H
 obtain ⟨rfl, rfl, rfl⟩ := H
 go_enter Try.func36, Try.ntmps36
 go_wp2_with (first | ((with_reducible refine gate_dst (N := 2) rfl ?_); refine box_event ?hg (N := 2) ?hd (cs := #[.int .i64 0, .slice none 0 0]) (t := 31) ?hr ?_; (case hd => rfl); (case hg => rfl); (case hr => first | (go_simp; done) | (go_simp; rfl)); intro gb618 hg w3 hbox hb; have n0_ := Aside0.mk (below_step (by exact bB) hb); have n1_ := Aside0.mk (hbox); have n2_ := Aside0.mk ((by rw [hg]; exact (below_size (by exact bB)) : w.heap.size ≤ gb618)); have n3_ := Aside0.mk ((by rw [hg]; exact (below_size (by exact bB)) : w.heap.size ≤ gb618)); clear HB; have HB := n0_; have BK618 := n1_; have GW618 := n2_; have GE618 := n3_; clear n0_ n1_ n2_ n3_; clear hb hbox hg) | ((with_reducible refine gate_callee (f := 85) rfl ?_); refine goesL_ (some 5) rfl rfl Try.func85 (by kernel_rfl) rfl #[.slice A0 l0.length c0] rfl (by (try simp only [List.map_toArray, List.map_cons, List.map_nil]); first | done | rfl | (simp only [List.length_drop, List.length_take]; rfl)) ?_; (with_reducible refine (spec_DrawForceOnce.calls k _ _ l0 t619 t620 t623 _ ?side1 ?side2 A2.out).mono ?_); (case side1 => exact cP (Kd.C_below HR0.out HB.out)); (case side2 => exact HC0.out); rintro e w4 ⟨v621, v624, rfl, ho0, ho1, hb⟩; refine ⟨_, rfl, ?_⟩; have n0_ := Aside0.mk (Kd.R_lower ho0 (below_size (by exact bB))); have n1_ := Aside0.mk (Kd.R_lower ho1 (below_size (by exact bB))); have n2_ := Aside0.mk (blk_below (g := gb618) (o := .cells #[.int .i64 0, .slice none 0 0] 31 (0, 0)) (by exact kP BK618.out) hb); have n3_ := Aside0.mk (below_step (by exact bB) hb); clear BK618; clear HB; have HO622 := n0_; have HO625 := n1_; have BK618 := n2_; have HB := n3_; clear n0_ n1_ n2_ n3_; (try clear hb); (try clear hb2); (try clear hk); (try clear hi); (try clear ho0); (try clear ho1); have hcz5_0 : w4.cell? ⟨gb618, 0, none⟩ = some (.int .i64 0) := (blk_cell BK618.out 0).trans rfl; have hcz5_1 : w4.cell? ⟨gb618, 1, none⟩ = some (.slice none 0 0) := (blk_cell BK618.out 1).trans rfl; have hfz5_0 := blk_frozen BK618.out 0; have hfz5_1 := blk_frozen BK618.out 1; obtain ⟨Ao6, co6, eo6⟩ := Kd.R_slice HO622.out; subst eo6))
 refine bodyPost_ret (results_ct rfl _ _ gb618 31 #[.int .i64 t619, .slice Ao6 t620.length co6] (0, 0) _ rfl (by refine kP ?_; refine blk_put (cs := #[.int .i64 t619, .slice none 0 0]) ?_ 1 _ rfl; refine kP ?_; refine blk_put (cs := #[.int .i64 0, .slice none 0 0]) ?_ 0 _ rfl; exact kP BK618.out) Try.underlying31 rfl (by kernel_rfl)) rfl ?_
 exact ⟨_, _, by first | rfl | (simp [errW_none, errW_some] <;> rfl) | (simp [*, errW_none, errW_some] <;> rfl), by refine rP ?_; exact Kd.R_mono (Kd.R_far (p := ⟨gb618, 1, none⟩) (Kd.R_far (p := ⟨gb618, 0, none⟩) (Kd.R_types HO622.out BK618.out (by decide)) (fun _ hk => hk.2) (.int .i64 t619)) (fun _ hk => hk.2) (.slice Ao6 t620.length co6)) (fun _ hk => trivial), by refine rP ?_; exact Kd.R_mono (Kd.R_far (p := ⟨gb618, 1, none⟩) (Kd.R_far (p := ⟨gb618, 0, none⟩) (Kd.R_types HO625.out BK618.out (by decide)) (fun _ hk => hk.2) (.int .i64 t619)) (fun _ hk => hk.2) (.slice Ao6 t620.length co6)) (fun _ hk => trivial), by exact bB⟩


end Go.Proofs.Ytmokkhfmbenleaa.QClosures
