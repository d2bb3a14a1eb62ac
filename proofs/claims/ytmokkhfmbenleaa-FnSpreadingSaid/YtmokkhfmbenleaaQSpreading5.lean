import Derived.Test.YtmokkhfmbenleaaQSpreading0
import Derived.Test.YtmokkhfmbenleaaQSpreading2
namespace Go.Proofs.Ytmokkhfmbenleaa.QSpreading
open Go.RowKit Go.Proofs.YtmokkhfmbenleaaW.PrintWords Go.Proofs.YtmokkhfmbenleaaW.PrintLast Go.Proofs.YtmokkhfmbenleaaW.PrintMore
attribute [local go_sem] max2_int min2_int max_two min_two max_three min_three max_four min_four   -- for this text's walks alone
set_option linter.unusedVariables false
set_option linter.unusedSimpArgs false
/-! ### spec_l1Cur_marred: function 138 -/
def spec_l1Cur_marred.f (s0_0 : List Int) (s0_1 : Int) (s0_2 : Int) (a1_0 : Int) (l1_1 : List (S119)) : Option (Int × (List (S119)) × Int × Int) := (spec_l1Cur_pick.f s0_0 s0_1 s0_2 50).bind fun bt456 => (if bt456.1 = 0 then ((spec_l1Cur_among.f s0_0 bt456.2.1 bt456.2.2 (([(-1), 8, 9, 0, 4611686018427387904] : List Int))).bind fun bt462 => (some (bt462.1, l1_1, bt462.2.1, bt462.2.2))) else (if bt456.1 = 1 then ((spec_l1Cur_pick.f s0_0 bt456.2.1 bt456.2.2 4).bind fun bt465 => ((spec_l1Cur_pick.f s0_0 bt465.2.1 bt465.2.2 9).bind fun bt468 => (if l1_1.length < 8796093022208 then (some (a1_0, (l1_1 ++ [(⟨bt465.1, wrap64 (bt468.1 - 1)⟩ : S119)]), bt468.2.1, bt468.2.2)) else (none)))) else (if bt456.1 = 2 then (if (l1_1.length : Int) > 0 then ((spec_l1Cur_pick.f s0_0 bt456.2.1 bt456.2.2 (l1_1.length : Int)).bind fun bt474 => (if 0 ≤ bt474.1 then (if bt474.1 < (l1_1.length : Int) then (if l1_1.length < 8796093022208 then (some (a1_0, (l1_1 ++ [(⟨(rd_T119 l1_1 bt474.1).f0, (rd_T119 l1_1 bt474.1).f1⟩ : S119)]), bt474.2.1, bt474.2.2)) else (none)) else (none)) else (none))) else (some (a1_0, l1_1, bt456.2.1, bt456.2.2))) else (some (a1_0, l1_1, bt456.2.1, bt456.2.2)))))
def spec_l1Cur_marred.T5 : Bool × List (List Nat × List Nat) := (true, [([], []), ([0], [0]), ([], []), ([2], [2]), ([], []), ([4, 3], [4]), ([5], [5]), ([3, 6], [3, 6]), ([7], [7]), ([1, 8, 5], [1, 8]), ([0, 1, 2, 3, 4, 5, 6, 7, 8, 9], []), ([10, 9, 9, 0, 1, 2, 3, 4, 5, 6, 7, 8, 9], [9, 10])])
def spec_l1Cur_marred.B5 : List Nat := [0, 1, 0, 4, 0, 28, 60, 124, 252, 511, 1023, 2047]
theorem spec_l1Cur_marred.tab5 : rtab .any (opsOf Try.f138 5) = spec_l1Cur_marred.T5 := by kernel_rfl
theorem spec_l1Cur_marred.bits5 : waitsOk spec_l1Cur_marred.T5.2 spec_l1Cur_marred.B5 = true := by kernel_rfl
def spec_l1Cur_marred.T8 : Bool × List (List Nat × List Nat) := (true, [([], []), ([0], [0]), ([], []), ([2], [2]), ([], []), ([], []), ([5], [5]), ([6], [6]), ([4, 7], [4, 7]), ([3, 8], [3, 8]), ([9], [9]), ([10], [10]), ([1, 11, 8], [1, 11]), ([0, 1, 2, 3, 4, 5, 6, 7, 8, 9, 10, 11, 12], []), ([13, 12, 12, 0, 1, 2, 3, 4, 5, 6, 7, 8, 9, 10, 11, 12], [12, 13])])
def spec_l1Cur_marred.B8 : List Nat := [0, 1, 0, 4, 0, 0, 32, 96, 240, 508, 1020, 2044, 4095, 8191, 16383]
theorem spec_l1Cur_marred.tab8 : rtab .any (opsOf Try.f138 8) = spec_l1Cur_marred.T8 := by kernel_rfl
theorem spec_l1Cur_marred.bits8 : waitsOk spec_l1Cur_marred.T8.2 spec_l1Cur_marred.B8 = true := by kernel_rfl
set_option maxHeartbeats 8000000 in
set_option maxRecDepth 100000 in
theorem spec_l1Cur_marred.calls (g : Nat) (s0_0 : List Int) (s0_1 : Int) (s0_2 : Int) (a1_0 : Int) (P1_1_ : Nat → Prop) (u9000_ : Value) (l1_1 : List (S119)) (r1 : Int) (r2 : List (S119)) (r3 : Int) (r4 : Int) (w0 w : World) (hI : IsS91 w0 w g s0_0 s0_1 s0_2) (hB : Below w0.heap.size w0 w) (ho1_1 : Kd.R k119 119 w w0.heap.size P1_1_ u9000_ l1_1) (h : spec_l1Cur_marred.f s0_0 s0_1 s0_2 a1_0 l1_1 = some (r1, r2, r3, r4)) :
  Calls Try.prog 138 #[.pointer (some ⟨g, 0, none⟩), .agg #[.int .i64 a1_0, u9000_]] w fun e w' => ∃ v1_ : Value, e = .returned (.agg #[.int .i64 r1, v1_]) ∧ Kd.R k119 119 w' w0.heap.size (fun k_ => (P1_1_ k_ ∨ w.heap.size ≤ k_)) v1_ r2 ∧ IsS91 w0 w' g s0_0 r3 r4 ∧ Below w0.heap.size w0 w' ∧ Kept w w' (fun k_ => (P1_1_ k_) ∨ k_ = g) := by
 have hu31 := Try.underlying31
 have hu119 := Try.underlying119
 have HO1_1 := aM (show Kd.R k119 119 w w0.heap.size (fun k_ => (P1_1_ k_ ∨ w.heap.size ≤ k_)) u9000_ l1_1 from Kd.R_mono ho1_1 (fun k_ hk => (.inl hk)))
 have HI0 := Aside0.mk hI
 have HL := Aside0.mk hB.size
 clear hI
 have HK := aM (Kept.refl w (fun k_ => (P1_1_ k_) ∨ k_ = g))
 have HW0 := Aside0.mk hB.size
 have HB := Aside0.mk hB
 clear hB
 have H : ((spec_l1Cur_pick.f s0_0 s0_1 s0_2 50).bind fun bt456 => (if bt456.1 = 0 then ((spec_l1Cur_among.f s0_0 bt456.2.1 bt456.2.2 (([(-1), 8, 9, 0, 4611686018427387904] : List Int))).bind fun bt462 => (some (bt462.1, l1_1, bt462.2.1, bt462.2.2))) else (if bt456.1 = 1 then ((spec_l1Cur_pick.f s0_0 bt456.2.1 bt456.2.2 4).bind fun bt465 => ((spec_l1Cur_pick.f s0_0 bt465.2.1 bt465.2.2 9).bind fun bt468 => (if l1_1.length < 8796093022208 then (some (a1_0, (l1_1 ++ [(⟨bt465.1, wrap64 (bt468.1 - 1)⟩ : S119)]), bt468.2.1, bt468.2.2)) else (none)))) else (if bt456.1 = 2 then (if (l1_1.length : Int) > 0 then ((spec_l1Cur_pick.f s0_0 bt456.2.1 bt456.2.2 (l1_1.length : Int)).bind fun bt474 => (if 0 ≤ bt474.1 then (if bt474.1 < (l1_1.length : Int) then (if l1_1.length < 8796093022208 then (some (a1_0, (l1_1 ++ [(⟨(rd_T119 l1_1 bt474.1).f0, (rd_T119 l1_1 bt474.1).f1⟩ : S119)]), bt474.2.1, bt474.2.2)) else (none)) else (none)) else (none))) else (some (a1_0, l1_1, bt456.2.1, bt456.2.2))) else (some (a1_0, l1_1, bt456.2.1, bt456.2.2)))))) = some (r1, r2, r3, r4) := h
 clear h
 replace H := Option.bind_eq_some_iff.mp H
 obtain ⟨⟨t456, t457, t458⟩, A30, H⟩ := H
 replace H : (if t456 = 0 then ((spec_l1Cur_among.f s0_0 t457 t458 (([(-1), 8, 9, 0, 4611686018427387904] : List Int))).bind fun bt462 => (some (bt462.1, l1_1, bt462.2.1, bt462.2.2))) else (if t456 = 1 then ((spec_l1Cur_pick.f s0_0 t457 t458 4).bind fun bt465 => ((spec_l1Cur_pick.f s0_0 bt465.2.1 bt465.2.2 9).bind fun bt468 => (if l1_1.length < 8796093022208 then (some (a1_0, (l1_1 ++ [(⟨bt465.1, wrap64 (bt468.1 - 1)⟩ : S119)]), bt468.2.1, bt468.2.2)) else (none)))) else (if t456 = 2 then (if (l1_1.length : Int) > 0 then ((spec_l1Cur_pick.f s0_0 t457 t458 (l1_1.length : Int)).bind fun bt474 => (if 0 ≤ bt474.1 then (if bt474.1 < (l1_1.length : Int) then (if l1_1.length < 8796093022208 then (some (a1_0, (l1_1 ++ [(⟨(rd_T119 l1_1 bt474.1).f0, (rd_T119 l1_1 bt474.1).f1⟩ : S119)]), bt474.2.1, bt474.2.2)) else (none)) else (none)) else (none))) else (some (a1_0, l1_1, t457, t458))) else (some (a1_0, l1_1, t457, t458))))) = some (r1, r2, r3, r4) := H
 have A3 := Aside0.mk A30
 clear A30
 by_cases c4 : t456 = 0
 ·rw [if_pos c4] at H
  have c4b0 : (t456 == 0) = true := beq_iff_eq.mpr c4
  have c4b1 : (t456 != 0) = false := bne_eq_false_iff_eq.mpr c4
  clear c4
  obtain ⟨y459, hy459⟩ : ∃ y_ : List Int, y_ = (([(-1), 8, 9, 0, 4611686018427387904] : List Int)) := ⟨_, rfl⟩
  replace H : ((spec_l1Cur_among.f s0_0 t457 t458 y459).bind fun bt462 => (some (bt462.1, l1_1, bt462.2.1, bt462.2.2))) = some (r1, r2, r3, r4) := by first | (rw [hy459];with_reducible exact H) | (have H2_ := (Option.bind_some _ _).symm.trans H;rw [hy459];with_reducible exact H2_) | (have H2_ := (Option.bind_some _ _).symm.trans H;with_reducible exact H2_) | with_reducible exact H | (rw [hy459];exact H) | exact H
  have Ny459 := Aside0.mk hy459
  clear hy459
  replace H := Option.bind_eq_some_iff.mp H
  obtain ⟨⟨t462, t463, t464⟩, A50, H⟩ := H
  replace H : (some (t462, l1_1, t463, t464)) = some (r1, r2, r3, r4) := H
  have A5 := Aside0.mk A50
  clear A50
  simp only [Option.some.injEq, Prod.mk.injEq] at H
  obtain ⟨rfl, rfl, rfl, rfl⟩ := H
  obtain ⟨Ao6, co6, eo6⟩ := Kd.R_slice HO1_1.out
  subst eo6
  go_enter Try.func138, Try.ntmps138
  go_wp2_with (first | ((with_reducible refine gate_dst (N := 3) rfl ?_);refine box_event ?hg (N := 3) ?hd (cs := #[.int .i64 a1_0, .slice Ao6 l1_1.length co6]) (t := 31) ?hr ?_;(case hd => rfl);(case hg => rfl);(case hr => first | (go_simp;done) | (go_simp;rfl));intro gb454 hg w7 hbox hb;have n0_ := aM (Kd.R_below (by exact rP HO1_1.out) hb);have n1_ := aM (IsS91.below (by repeat (first | (with_reducible first | exact HI0.out | apply IsS91.alloc | apply IsS91.drewN | apply IsS91.drew | apply IsS91.set_1 | apply IsS91.set_2) | exact HI0.out)) hb);have n2_ := aM (Kept.below (S := (fun k_ => (P1_1_ k_) ∨ k_ = g)) (by exact kE) hb);have n3_ := aM (below_step (by exact bB) hb);have n4_ := aM (hbox);have n5_ := aM ((by rw [hg];exact (by first | exact HK.out.1 | exact (show Kept w _ (fun k_ => (P1_1_ k_) ∨ k_ = g) from by exact kE).1) : w.heap.size ≤ gb454));have n6_ := aM (sW hg : w0.heap.size ≤ gb454);have n7_ := aM ((by rw [hg];exact Nat.ne_of_lt (IsS91.lt (show IsS91 w0 _ g s0_0 s0_1 s0_2 from by exact sS)) : g ≠ gb454));have n8_ := aM ((by rw [hg];exact Nat.ne_of_gt (IsS91.lt (show IsS91 w0 _ g s0_0 s0_1 s0_2 from by exact sS)) : gb454 ≠ g));clear HO1_1;clear HI0;clear HK;clear HB;have HO1_1 := n0_;have HI0 := n1_;have HK := n2_;have HB := n3_;have BK454 := n4_;have GW454 := n5_;have GE454 := n6_;have NB0_454 := n7_;have NB454_0 := n8_;clear n0_ n1_ n2_ n3_ n4_ n5_ n6_ n7_ n8_;clear hb hbox hg) | ((with_reducible refine gate_dst (N := 4) rfl ?_);refine box_event ?hg (N := 4) ?hd (cs := #[.int .i64 0, .slice none 0 0]) (t := 31) ?hr ?_;(case hd => rfl);(case hg => rfl);(case hr => first | (go_simp;done) | (go_simp;rfl));intro gb455 hg w8 hbox hb;have n0_ := aM (Kd.R_below (by exact rP HO1_1.out) hb);have n1_ := aM (IsS91.below (by repeat (first | (with_reducible first | exact HI0.out | apply IsS91.alloc | apply IsS91.drewN | apply IsS91.drew | apply IsS91.set_1 | apply IsS91.set_2 | refine IsS91.far ?_ NB0_454.out _) | exact HI0.out)) hb);have n2_ := aM (kB hb BK454.out);have n3_ := aM (Kept.below (S := (fun k_ => (P1_1_ k_) ∨ k_ = g)) (by exact kE) hb);have n4_ := aM (below_step (by exact bB) hb);have n5_ := aM (hbox);have n6_ := aM ((by rw [hg];exact (by first | exact HK.out.1 | exact (show Kept w _ (fun k_ => (P1_1_ k_) ∨ k_ = g) from by exact kE).1) : w.heap.size ≤ gb455));have n7_ := aM (sW hg : w0.heap.size ≤ gb455);have n8_ := aM (nL hg (kP BK454.out));have n9_ := aM (nG hg (kP BK454.out));have n10_ := aM ((by rw [hg];exact Nat.ne_of_lt (IsS91.lt (show IsS91 w0 _ g s0_0 s0_1 s0_2 from by exact sS)) : g ≠ gb455));have n11_ := aM ((by rw [hg];exact Nat.ne_of_gt (IsS91.lt (show IsS91 w0 _ g s0_0 s0_1 s0_2 from by exact sS)) : gb455 ≠ g));clear HO1_1;clear HI0;clear BK454;clear HK;clear HB;have HO1_1 := n0_;have HI0 := n1_;have BK454 := n2_;have HK := n3_;have HB := n4_;have BK455 := n5_;have GW455 := n6_;have GE455 := n7_;have NB454_455 := n8_;have NB455_454 := n9_;have NB0_455 := n10_;have NB455_0 := n11_;clear n0_ n1_ n2_ n3_ n4_ n5_ n6_ n7_ n8_ n9_ n10_ n11_;clear hb hbox hg) | ((with_reducible refine gate_callee (f := 131) rfl ?_);refine goesL_ (some 6) rfl rfl Try.func131 (by kernel_rfl) rfl #[.pointer (some ⟨g, 0, none⟩), .int .i64 50] rfl mM ?_;(with_reducible refine (spec_l1Cur_pick.calls g s0_0 s0_1 s0_2 50 t456 t457 t458 w0 _ ?side1 ?side2 A3.out).mono ?_);(case side1 => exact sS);(case side2 => exact bB);rintro e w9 ⟨rfl, hi, hb, hk⟩;refine ⟨_, rfl, ?_⟩;have n0_ := aM (Kd.R_mono (Kd.R_keep (IsS91.apart (show IsS91 w0 _ g s0_0 s0_1 s0_2 from by exact sS) (by exact rP HO1_1.out) (by decide)) hk (fun _ h => h.2)) (fun _ h => h.1));have n1_ := aM (KeepBut.blk hk (g' := gb454) (o := .cells #[.int .i64 a1_0, .slice Ao6 l1_1.length co6] 31 (0, 0)) (by exact kP BK454.out) NB454_0.out (by simp));have n2_ := aM (KeepBut.blk hk (g' := gb455) (o := .cells #[.int .i64 0, .slice none 0 0] 31 (0, 0)) (by exact kP BK455.out) NB455_0.out (by simp));have n3_ := aM (Kept.of_keep (S := (fun k_ => (P1_1_ k_) ∨ k_ = g)) (by exact kE) hk (.inl (.inr rfl)));have n4_ := aM (hb);have n5_ := aM (hi);clear HO1_1;clear BK454;clear BK455;clear HK;clear HB;clear HI0;have HO1_1 := n0_;have BK454 := n1_;have BK455 := n2_;have HK := n3_;have HB := n4_;have HI0 := n5_;clear n0_ n1_ n2_ n3_ n4_ n5_;(try clear hb);(try clear hb2);(try clear hk);(try clear hi)) | ((with_reducible refine gate_dst (N := 10) rfl ?_);refine Kd.R_lit (Kd.int .i64) _ 3 ?hg (N := 10) ?hd (xs := ([(-1), 8, 9, 0, 4611686018427387904] : List Int)) (inner := [.int .i64 (-1), .int .i64 8, .int .i64 9, .int .i64 0, .int .i64 4611686018427387904]) (ok := fun _ => True) (okp := fun _ => True) ?hr ?hp (fun _ hk => hk) trivial (Below.refl _ _) (Nat.le_refl _) (by simp) ?_;(case hd => rfl);(case hg => rfl);(case hr => first | (go_simp;done) | (go_simp;rfl));(case hp => exact (Reps.one (show Kd.M (Kd.int .i64) _ _ _ (-1) [.int .i64 (-1)] from rfl) (Reps.one (show Kd.M (Kd.int .i64) _ _ _ 8 [.int .i64 8] from rfl) (Reps.one (show Kd.M (Kd.int .i64) _ _ _ 9 [.int .i64 9] from rfl) (Reps.one (show Kd.M (Kd.int .i64) _ _ _ 0 [.int .i64 0] from rfl) (Reps.one (show Kd.M (Kd.int .i64) _ _ _ 4611686018427387904 [.int .i64 4611686018427387904] from rfl) (Reps.none _ _)))))));intro v460 w10 ho11 hb hg_ hnew_;clear hg_ hnew_;(first | rw [← Ny459.out] at ho11 | (simp only [Int.reduceToNat] at ho11;rw [← Ny459.out] at ho11));have n0_ := aM (Kd.R_below (by exact rP HO1_1.out) hb);have n1_ := aM (Kd.R_lower (Kd.R_newM (M := fun k_ => (P1_1_ k_ ∨ w.heap.size ≤ k_)) ho11 (by first | exact HK.out.1 | exact (show Kept w _ (fun k_ => (P1_1_ k_) ∨ k_ = g) from by exact kE).1) (fun k_ h_ => .inr h_)) (below_size (by exact bB)));have n2_ := aM (IsS91.below (by repeat (first | (with_reducible first | exact HI0.out | apply IsS91.alloc | apply IsS91.drewN | apply IsS91.drew | apply IsS91.set_1 | apply IsS91.set_2 | refine IsS91.far ?_ NB0_454.out _ | refine IsS91.far ?_ NB0_455.out _) | exact HI0.out)) hb);have n3_ := aM (kB hb BK454.out);have n4_ := aM (kB hb BK455.out);have n5_ := aM (Kept.below (S := (fun k_ => (P1_1_ k_) ∨ k_ = g)) (by exact kE) hb);have n6_ := aM (below_step (by exact bB) hb);clear HO1_1;clear HI0;clear BK454;clear BK455;clear HK;clear HB;have HO1_1 := n0_;have HO461 := n1_;have HI0 := n2_;have BK454 := n3_;have BK455 := n4_;have HK := n5_;have HB := n6_;clear n0_ n1_ n2_ n3_ n4_ n5_ n6_;clear hb ho11;obtain ⟨Ao12, co12, eo12⟩ := Kd.R_slice HO461.out;subst eo12) | ((with_reducible refine gate_callee (f := 129) rfl ?_);refine goesL_ (some 11) rfl rfl Try.func129 (by kernel_rfl) rfl #[.pointer (some ⟨g, 0, none⟩), .slice Ao12 y459.length co12] rfl mM ?_;(with_reducible refine (spec_l1Cur_among.calls g s0_0 t457 t458 _ _ y459 t462 t463 t464 w0 _ ?side1 ?side2 ?side3 ?side4 ?side5 A5.out).mono ?_);(case side1 => exact sS);(case side2 => exact bB);(case side3 => exact cP (Kd.R_reads' HO461.out).2.2);(case side4 => exact (Kd.R_reads' HO461.out).2.1);(case side5 => exact far_slice (IsS91.own_ne HI0.out HO461.out (by decide)));rintro e w13 ⟨rfl, hi, hb, hk⟩;refine ⟨_, rfl, ?_⟩;have n0_ := aM (Kd.R_mono (Kd.R_keep (IsS91.apart (show IsS91 w0 _ g s0_0 t457 t458 from by exact sS) (by exact rP HO1_1.out) (by decide)) hk (fun _ h => h.2)) (fun _ h => h.1));have n1_ := aM (KeepBut.blk hk (g' := gb454) (o := .cells #[.int .i64 a1_0, .slice Ao6 l1_1.length co6] 31 (0, 0)) (by exact kP BK454.out) NB454_0.out (by simp));have n2_ := aM (KeepBut.blk hk (g' := gb455) (o := .cells #[.int .i64 0, .slice none 0 0] 31 (0, 0)) (by exact kP BK455.out) NB455_0.out (by simp));have n3_ := aM (Kd.R_mono (Kd.R_keep (IsS91.apart (show IsS91 w0 _ g s0_0 t457 t458 from by exact sS) (by exact rP HO461.out) (by decide)) hk (fun _ h => h.2)) (fun _ h => h.1));have n4_ := aM (Kept.of_keep (S := (fun k_ => (P1_1_ k_) ∨ k_ = g)) (by exact kE) hk (.inl (.inr rfl)));have n5_ := aM (hb);have n6_ := aM (hi);clear HO1_1;clear BK454;clear BK455;clear HO461;clear HK;clear HB;clear HI0;have HO1_1 := n0_;have BK454 := n1_;have BK455 := n2_;have HO461 := n3_;have HK := n4_;have HB := n5_;have HI0 := n6_;clear n0_ n1_ n2_ n3_ n4_ n5_ n6_;(try clear hb);(try clear hb2);(try clear hk);(try clear hi);have hnb14 := NB454_455.out;have hnc14 := NB455_454.out;have hnb15 := NB454_0.out;have hnc15 := NB0_454.out;have hcz16_0 := bC0 BK454.out;have hcz16_1 := bC1 BK454.out;have hfz16_0 := blk_frozen BK454.out 0;have hfz16_1 := blk_frozen BK454.out 1;have hnb17 := NB455_0.out;have hnc17 := NB0_455.out;have hcz18_0 := bC0 BK455.out;have hcz18_1 := bC1 BK455.out;have hfz18_0 := blk_frozen BK455.out 0;have hfz18_1 := blk_frozen BK455.out 1))
  refine bodyPost_ret (results_cell_row rfl _ _ gb455 31 #[.int .i64 t462, .slice Ao6 l1_1.length co6] (0, 0) _ rfl (by refine kP ?_;refine blk_put (cs := #[.int .i64 t462, .slice none 0 0]) ?_ 1 _ rfl;refine kP ?_;refine blk_put (cs := #[.int .i64 0, .slice none 0 0]) ?_ 0 _ rfl;refine kP ?_;refine blk_far ?_ NB455_454.out _;exact kP BK455.out) Try.underlying31 rfl (by kernel_rfl)) rfl ?_
  exact ⟨_, by first | rfl | (simp [errW_none, errW_some] <;> rfl) | (simp [*, errW_none, errW_some] <;> rfl), by refine rP ?_;exact Kd.R_mono (Kd.R_far (p := ⟨gb455, 1, none⟩) (Kd.R_far (p := ⟨gb455, 0, none⟩) (Kd.R_far (p := ⟨gb454, 0, none⟩) (Kd.R_types (Kd.R_types HO1_1.out BK454.out (by decide)) BK455.out (by decide)) (fun _ hk => hk.1.2) (.int .i64 t462)) (fun _ hk => hk.2) (.int .i64 t462)) (fun _ hk => hk.2) (.slice Ao6 l1_1.length co6)) (fun _ hk => hk.1.1), by exact sS, by exact bB, by exact kE⟩
 rw [if_neg c4] at H
 have c4b0 : (t456 == 0) = false := beq_eq_false_iff_ne.mpr c4
 have c4b1 : (t456 != 0) = true := bne_iff_ne.mpr c4
 by_cases c19 : t456 = 1
 ·rw [if_pos c19] at H
  have c19b0 : (t456 == 1) = true := beq_iff_eq.mpr c19
  have c19b1 : (t456 != 1) = false := bne_eq_false_iff_eq.mpr c19
  clear c19
  replace H := Option.bind_eq_some_iff.mp H
  obtain ⟨⟨t465, t466, t467⟩, A200, H⟩ := H
  replace H : ((spec_l1Cur_pick.f s0_0 t466 t467 9).bind fun bt468 => (if l1_1.length < 8796093022208 then (some (a1_0, (l1_1 ++ [(⟨t465, wrap64 (bt468.1 - 1)⟩ : S119)]), bt468.2.1, bt468.2.2)) else (none))) = some (r1, r2, r3, r4) := H
  have A20 := Aside0.mk A200
  clear A200
  replace H := Option.bind_eq_some_iff.mp H
  obtain ⟨⟨t468, t469, t470⟩, A210, H⟩ := H
  replace H : (if l1_1.length < 8796093022208 then (some (a1_0, (l1_1 ++ [(⟨t465, wrap64 (t468 - 1)⟩ : S119)]), t469, t470)) else (none)) = some (r1, r2, r3, r4) := H
  have A21 := Aside0.mk A210
  clear A210
  by_cases c22 : l1_1.length < 8796093022208
  rotate_left
  ·rw [if_neg c22] at H
   exact absurd H (by simp)
  rw [if_pos c22] at H
  have LMc22 := Aside0.mk c22
  clear c22
  obtain ⟨y471, hy471⟩ : ∃ y_ : List (S119), y_ = (l1_1 ++ [(⟨t465, wrap64 (t468 - 1)⟩ : S119)]) := ⟨_, rfl⟩
  replace H : (some (a1_0, y471, t469, t470)) = some (r1, r2, r3, r4) := by first | (rw [hy471];with_reducible exact H) | (have H2_ := (Option.bind_some _ _).symm.trans H;rw [hy471];with_reducible exact H2_) | (have H2_ := (Option.bind_some _ _).symm.trans H;with_reducible exact H2_) | with_reducible exact H | (rw [hy471];exact H) | exact H
  have Ny471 := Aside0.mk hy471
  clear hy471
  simp only [Option.some.injEq, Prod.mk.injEq] at H
  obtain ⟨rfl, rfl, rfl, rfl⟩ := H
  obtain ⟨Ao23, co23, eo23⟩ := Kd.R_slice HO1_1.out
  subst eo23
  go_enter Try.func138, Try.ntmps138
  try go_wp2_with (first | ((with_reducible refine gate_dst (N := 3) rfl ?_);refine box_event ?hg (N := 3) ?hd (cs := #[.int .i64 a1_0, .slice Ao23 l1_1.length co23]) (t := 31) ?hr ?_;(case hd => rfl);(case hg => rfl);(case hr => first | (go_simp;done) | (go_simp;rfl));intro gb454 hg w24 hbox hb;have n0_ := aM (Kd.R_below (by exact rP HO1_1.out) hb);have n1_ := aM (IsS91.below (by repeat (first | (with_reducible first | exact HI0.out | apply IsS91.alloc | apply IsS91.drewN | apply IsS91.drew | apply IsS91.set_1 | apply IsS91.set_2) | exact HI0.out)) hb);have n2_ := aM (Kept.below (S := (fun k_ => (P1_1_ k_) ∨ k_ = g)) (by exact kE) hb);have n3_ := aM (below_step (by exact bB) hb);have n4_ := aM (hbox);have n5_ := aM ((by rw [hg];exact (by first | exact HK.out.1 | exact (show Kept w _ (fun k_ => (P1_1_ k_) ∨ k_ = g) from by exact kE).1) : w.heap.size ≤ gb454));have n6_ := aM (sW hg : w0.heap.size ≤ gb454);have n7_ := aM ((by rw [hg];exact Nat.ne_of_lt (IsS91.lt (show IsS91 w0 _ g s0_0 s0_1 s0_2 from by exact sS)) : g ≠ gb454));have n8_ := aM ((by rw [hg];exact Nat.ne_of_gt (IsS91.lt (show IsS91 w0 _ g s0_0 s0_1 s0_2 from by exact sS)) : gb454 ≠ g));clear HO1_1;clear HI0;clear HK;clear HB;have HO1_1 := n0_;have HI0 := n1_;have HK := n2_;have HB := n3_;have BK454 := n4_;have GW454 := n5_;have GE454 := n6_;have NB0_454 := n7_;have NB454_0 := n8_;clear n0_ n1_ n2_ n3_ n4_ n5_ n6_ n7_ n8_;clear hb hbox hg) | ((with_reducible refine gate_dst (N := 4) rfl ?_);refine box_event ?hg (N := 4) ?hd (cs := #[.int .i64 0, .slice none 0 0]) (t := 31) ?hr ?_;(case hd => rfl);(case hg => rfl);(case hr => first | (go_simp;done) | (go_simp;rfl));intro gb455 hg w25 hbox hb;have n0_ := aM (Kd.R_below (by exact rP HO1_1.out) hb);have n1_ := aM (IsS91.below (by repeat (first | (with_reducible first | exact HI0.out | apply IsS91.alloc | apply IsS91.drewN | apply IsS91.drew | apply IsS91.set_1 | apply IsS91.set_2 | refine IsS91.far ?_ NB0_454.out _) | exact HI0.out)) hb);have n2_ := aM (kB hb BK454.out);have n3_ := aM (Kept.below (S := (fun k_ => (P1_1_ k_) ∨ k_ = g)) (by exact kE) hb);have n4_ := aM (below_step (by exact bB) hb);have n5_ := aM (hbox);have n6_ := aM ((by rw [hg];exact (by first | exact HK.out.1 | exact (show Kept w _ (fun k_ => (P1_1_ k_) ∨ k_ = g) from by exact kE).1) : w.heap.size ≤ gb455));have n7_ := aM (sW hg : w0.heap.size ≤ gb455);have n8_ := aM (nL hg (kP BK454.out));have n9_ := aM (nG hg (kP BK454.out));have n10_ := aM ((by rw [hg];exact Nat.ne_of_lt (IsS91.lt (show IsS91 w0 _ g s0_0 s0_1 s0_2 from by exact sS)) : g ≠ gb455));have n11_ := aM ((by rw [hg];exact Nat.ne_of_gt (IsS91.lt (show IsS91 w0 _ g s0_0 s0_1 s0_2 from by exact sS)) : gb455 ≠ g));clear HO1_1;clear HI0;clear BK454;clear HK;clear HB;have HO1_1 := n0_;have HI0 := n1_;have BK454 := n2_;have HK := n3_;have HB := n4_;have BK455 := n5_;have GW455 := n6_;have GE455 := n7_;have NB454_455 := n8_;have NB455_454 := n9_;have NB0_455 := n10_;have NB455_0 := n11_;clear n0_ n1_ n2_ n3_ n4_ n5_ n6_ n7_ n8_ n9_ n10_ n11_;clear hb hbox hg) | ((with_reducible refine gate_callee (f := 131) rfl ?_);refine goesL_ (some 6) rfl rfl Try.func131 (by kernel_rfl) rfl #[.pointer (some ⟨g, 0, none⟩), .int .i64 50] rfl mM ?_;(with_reducible refine (spec_l1Cur_pick.calls g s0_0 s0_1 s0_2 50 t456 t457 t458 w0 _ ?side1 ?side2 A3.out).mono ?_);(case side1 => exact sS);(case side2 => exact bB);rintro e w26 ⟨rfl, hi, hb, hk⟩;refine ⟨_, rfl, ?_⟩;have n0_ := aM (Kd.R_mono (Kd.R_keep (IsS91.apart (show IsS91 w0 _ g s0_0 s0_1 s0_2 from by exact sS) (by exact rP HO1_1.out) (by decide)) hk (fun _ h => h.2)) (fun _ h => h.1));have n1_ := aM (KeepBut.blk hk (g' := gb454) (o := .cells #[.int .i64 a1_0, .slice Ao23 l1_1.length co23] 31 (0, 0)) (by exact kP BK454.out) NB454_0.out (by simp));have n2_ := aM (KeepBut.blk hk (g' := gb455) (o := .cells #[.int .i64 0, .slice none 0 0] 31 (0, 0)) (by exact kP BK455.out) NB455_0.out (by simp));have n3_ := aM (Kept.of_keep (S := (fun k_ => (P1_1_ k_) ∨ k_ = g)) (by exact kE) hk (.inl (.inr rfl)));have n4_ := aM (hb);have n5_ := aM (hi);clear HO1_1;clear BK454;clear BK455;clear HK;clear HB;clear HI0;have HO1_1 := n0_;have BK454 := n1_;have BK455 := n2_;have HK := n3_;have HB := n4_;have HI0 := n5_;clear n0_ n1_ n2_ n3_ n4_ n5_;(try clear hb);(try clear hb2);(try clear hk);(try clear hi)))
  have n0_ := aM (Kd.R_drew HO1_1.out)
  have n1_ := aM (blk_drew BK454.out)
  have n2_ := aM (blk_drew BK455.out)
  have n3_ := aM (IsS91.drew HI0.out)
  have n4_ := aM (Kept.drew HK.out)
  have n5_ := aM (below_drew1 HB.out)
  clear HO1_1
  clear BK454
  clear BK455
  clear HI0
  clear HK
  clear HB
  have HO1_1 := n0_
  have BK454 := n1_
  have BK455 := n2_
  have HI0 := n3_
  have HK := n4_
  have HB := n5_
  clear n0_ n1_ n2_ n3_ n4_ n5_
  refine start_ (n := 12) (S := fun w' => w'.cell? ⟨gb454, 0, none⟩ = some (.int .i64 a1_0) ∧ w'.cell? ⟨gb454, 1, none⟩ = some (.slice Ao23 l1_1.length co23)) (ds := [11]) #[false,false,false,false,false,false,false,false,false,false,false,false] (by kernel_rfl) rfl rfl ⟨(blk_cell BK454.out 0).trans rfl, (blk_cell BK454.out 1).trans rfl⟩ (fun hHeld => ?_);refine with_tabW spec_l1Cur_marred.tab5 spec_l1Cur_marred.bits5 (fun HT_ HW_ => ?_)
  generalize w26.drew = w27 at HO1_1 BK454 BK455 HI0 HK HB hHeld ⊢
  refine pure_ (i := 0) (N := some 15) (v := ?_) (a' := ?_) #[true,false,false,false,false,false,false,false,false,false,false,false] rfl rfl (any_of HT_.out (by kernel_rfl)) (fun _ _ _ h => h) (Or.inl ⟨by rfl, ?_⟩) ?_ ?_
  rotate_left
  ·intro w'
   go_simp
   with_reducible rfl
  rotate_left
  ·exact aP
  refine pure_ (i := 2) (N := some 17) (v := ?_) (a' := ?_) #[true,false,true,false,false,false,false,false,false,false,false,false] rfl rfl (any_of HT_.out (by kernel_rfl)) (fun _ _ _ h => h) (Or.inl ⟨by rfl, ?_⟩) ?_ ?_
  rotate_left
  ·intro w'
   go_simp
   with_reducible rfl
  rotate_left
  ·exact aP
  refine pure_ (i := 4) (N := some 19) (v := ?_) (a' := ?_) #[true,false,true,false,true,false,false,false,false,false,false,false] rfl rfl (any_of HT_.out (by kernel_rfl)) (fun _ _ _ h => h) (Or.inl ⟨by rfl, ?_⟩) ?_ ?_
  rotate_left
  ·intro w'
   go_simp
   with_reducible rfl
  rotate_left
  ·exact aP
  refine take_ (i := 1) (N := some 16) (v := ?_) (a' := ?_) #[true,true,true,false,true,false,false,false,false,false,false,false] rfl rfl (take_ofW HT_.out HW_.out (by kernel_rfl)) (fun _ _ _ h => h) (Or.inl ⟨by rfl, ?_⟩) hHeld ?_ ?_
  rotate_left
  ·rintro w' ⟨s0, s1⟩
   go_simp
   with_reducible rfl
  rotate_left
  ·exact aP
  refine one_ (i := 3) (N := some 18) #[true,true,true,true,true,false,false,false,false,false,false,false] rfl rfl (one_of HT_.out (by kernel_rfl)) (by decide) (fun K hK => ?_)
  refine goes_ Try.func131 (by kernel_rfl) rfl #[.pointer (some ⟨g, 0, none⟩), .int .i64 4] (by rfl) rfl rfl mM ?_
  with_reducible refine (spec_l1Cur_pick.calls g s0_0 t457 t458 4 t465 t466 t467 w0 _ ?side1 ?side2 A20.out).mono ?_
  (case side1 => exact sS)
  (case side2 => exact bB)
  rintro e w28 ⟨rfl, hi, hb, hk⟩
  refine ⟨_, rfl, ?_⟩
  have n0_ := aM (Kd.R_mono (Kd.R_keep (IsS91.apart (show IsS91 w0 _ g s0_0 t457 t458 from by exact sS) (by exact rP HO1_1.out) (by decide)) hk (fun _ h => h.2)) (fun _ h => h.1))
  have n1_ := aM (KeepBut.blk hk (g' := gb454) (o := .cells #[.int .i64 a1_0, .slice Ao23 l1_1.length co23] 31 (0, 0)) (by exact kP BK454.out) NB454_0.out (by simp))
  have n2_ := aM (KeepBut.blk hk (g' := gb455) (o := .cells #[.int .i64 0, .slice none 0 0] 31 (0, 0)) (by exact kP BK455.out) NB455_0.out (by simp))
  have n3_ := aM (Kept.of_keep (S := (fun k_ => (P1_1_ k_) ∨ k_ = g)) (by exact kE) hk (.inl (.inr rfl)))
  have n4_ := aM (hb)
  have n5_ := aM (hi)
  clear HO1_1
  clear BK454
  clear BK455
  clear HK
  clear HB
  clear HI0
  have HO1_1 := n0_
  have BK454 := n1_
  have BK455 := n2_
  have HK := n3_
  have HB := n4_
  have HI0 := n5_
  clear n0_ n1_ n2_ n3_ n4_ n5_
  (try clear hb)
  (try clear hb2)
  (try clear hk)
  (try clear hi)
  refine hK.out _ _ ⟨(blk_cell BK454.out 0).trans rfl, (blk_cell BK454.out 1).trans rfl⟩ (fun hHeld => ?_)
  clear hK K
  refine norm_ (a' := ?_) ?_ ?_
  rotate_left
  ·show Act.put _ (some 18) _ = _
   simp only [Act.put, List.setIfInBounds_toArray, List.set_cons_zero, List.set_cons_succ, i64_w, i32_w]
   rfl
  refine one_ (i := 5) (N := some 20) #[true,true,true,true,true,true,false,false,false,false,false,false] rfl rfl (one_of HT_.out (by kernel_rfl)) (by decide) (fun K hK => ?_)
  refine goes_ Try.func131 (by kernel_rfl) rfl #[.pointer (some ⟨g, 0, none⟩), .int .i64 9] (by rfl) rfl rfl mM ?_
  with_reducible refine (spec_l1Cur_pick.calls g s0_0 t466 t467 9 t468 t469 t470 w0 _ ?side1 ?side2 A21.out).mono ?_
  (case side1 => exact sS)
  (case side2 => exact bB)
  rintro e w29 ⟨rfl, hi, hb, hk⟩
  refine ⟨_, rfl, ?_⟩
  have n0_ := aM (Kd.R_mono (Kd.R_keep (IsS91.apart (show IsS91 w0 _ g s0_0 t466 t467 from by exact sS) (by exact rP HO1_1.out) (by decide)) hk (fun _ h => h.2)) (fun _ h => h.1))
  have n1_ := aM (KeepBut.blk hk (g' := gb454) (o := .cells #[.int .i64 a1_0, .slice Ao23 l1_1.length co23] 31 (0, 0)) (by exact kP BK454.out) NB454_0.out (by simp))
  have n2_ := aM (KeepBut.blk hk (g' := gb455) (o := .cells #[.int .i64 0, .slice none 0 0] 31 (0, 0)) (by exact kP BK455.out) NB455_0.out (by simp))
  have n3_ := aM (Kept.of_keep (S := (fun k_ => (P1_1_ k_) ∨ k_ = g)) (by exact kE) hk (.inl (.inr rfl)))
  have n4_ := aM (hb)
  have n5_ := aM (hi)
  clear HO1_1
  clear BK454
  clear BK455
  clear HK
  clear HB
  clear HI0
  have HO1_1 := n0_
  have BK454 := n1_
  have BK455 := n2_
  have HK := n3_
  have HB := n4_
  have HI0 := n5_
  clear n0_ n1_ n2_ n3_ n4_ n5_
  (try clear hb)
  (try clear hb2)
  (try clear hk)
  (try clear hi)
  refine hK.out _ _ ⟨(blk_cell BK454.out 0).trans rfl, (blk_cell BK454.out 1).trans rfl⟩ (fun hHeld => ?_)
  clear hK K
  refine norm_ (a' := ?_) ?_ ?_
  rotate_left
  ·show Act.put _ (some 20) _ = _
   simp only [Act.put, List.setIfInBounds_toArray, List.set_cons_zero, List.set_cons_succ, i64_w, i32_w]
   rfl
  refine pure_ (i := 6) (N := some 21) (v := ?_) (a' := ?_) #[true,true,true,true,true,true,true,false,false,false,false,false] rfl rfl (any_of HT_.out (by kernel_rfl)) (fun _ _ _ h => h) (Or.inl ⟨by rfl, ?_⟩) ?_ ?_
  rotate_left
  ·intro w'
   go_simp
   with_reducible rfl
  rotate_left
  ·exact aP
  refine pure_ (i := 7) (N := some 22) (v := ?_) (a' := ?_) #[true,true,true,true,true,true,true,true,false,false,false,false] rfl rfl (any_of HT_.out (by kernel_rfl)) (fun _ _ _ h => h) (Or.inl ⟨by rfl, ?_⟩) ?_ ?_
  rotate_left
  ·intro w'
   go_simp
   with_reducible rfl
  rotate_left
  ·exact aP
  refine one_ (i := 8) (N := some 23) #[true,true,true,true,true,true,true,true,true,false,false,false] rfl rfl (one_of HT_.out (by kernel_rfl)) (by decide) (fun K hK => ?_)
  refine value_ (w1 := ?_) (v := ?_) (by rfl) rfl ?_ ?_
  rotate_left 2
  ·go_simp
   constructor
   ·rfl
   ·rfl
  refine hK.out _ _ ⟨(blk_cell (blk_alloc BK454.out _) 0).trans rfl, (blk_cell (blk_alloc BK454.out _) 1).trans rfl⟩ (fun hHeld => ?_)
  clear hK K
  refine norm_ (a' := ?_) ?_ ?_
  rotate_left
  ·show Act.put _ (some 23) _ = _
   simp only [Act.put, List.setIfInBounds_toArray, List.set_cons_zero, List.set_cons_succ, i64_w, i32_w]
   rfl
  refine one_ (i := 9) (N := some 24) #[true,true,true,true,true,true,true,true,true,true,false,false] rfl rfl (one_of HT_.out (by kernel_rfl)) (by decide) (fun K hK => ?_)
  refine Kd.R_append_step k119 (w0 := w0) w0.heap.size (by rfl) (.tmp 16) (.tmp 23) 22 119 (.agg #[(.int .i64 0), (.int .i64 0)]) 16 rfl Try.underlying22 info119 rfl (by decide) (by omega) (.slice Ao23 l1_1.length co23) l1_1 (⟨t465, wrap64 (t468 - 1)⟩ : S119) [.int .i64 t465, .int .i64 (wrap64 (t468 - 1))] (fun k_ => (P1_1_ k_ ∨ w.heap.size ≤ k_)) (fun _ => False) rfl rfl ?aP (fun _ hk => hk.elim) ?aF ?aO ?aB ?aS ?aL ?_
  (case aP => exact k119_mkM _ _ _ (⟨t465, wrap64 (t468 - 1)⟩ : S119))
  (case aB => exact (by exact bB))
  (case aF => exact (fun k_ hk => (.inr (Nat.le_trans (by first | exact HK.out.1 | exact (show Kept w _ (fun k_ => (P1_1_ k_) ∨ k_ = g) from by exact kE).1) hk))))
  (case aO => exact (by exact rP HO1_1.out))
  (case aS => exact (below_size (by exact bB)))
  (case aL => have := LMc22.out;omega)
  intro v472 w30 ho hb hg hat
  rw [← Ny471.out] at ho
  have n0_ := aM (IsS91.grown (by exact sS) hg (IsS91.own_ne HI0.out HO1_1.out (by decide)))
  have n1_ := aM (blk_grown (g := gb454) (o := .cells #[.int .i64 a1_0, .slice Ao23 l1_1.length co23] 31 (0, 0)) (by exact kP BK454.out) hg (Kd.R_ne HO1_1.out BK454.out (by decide)))
  have n2_ := aM (blk_grown (g := gb455) (o := .cells #[.int .i64 0, .slice none 0 0] 31 (0, 0)) (by exact kP BK455.out) hg (Kd.R_ne HO1_1.out BK455.out (by decide)))
  have n3_ := aM (hb)
  have n4_ := aM (Kept.of_grown (S := (fun k_ => (P1_1_ k_) ∨ k_ = g)) hg (by exact kE) (fun k_ e_ => Or.imp_left Or.inl ((HO1_1.out.1 k_ e_))))
  have n5_ := aM (ho)
  clear HI0
  clear BK454
  clear BK455
  clear HB
  clear HK
  clear HO1_1
  have HI0 := n0_
  have BK454 := n1_
  have BK455 := n2_
  have HB := n3_
  have HK := n4_
  have HO473 := n5_
  clear n0_ n1_ n2_ n3_ n4_ n5_
  clear ho hb hg hat
  obtain ⟨Ao31, co31, eo31⟩ := Kd.R_slice HO473.out
  (first | subst eo31 | (injection eo31 with f1_ f2_ f3_;have f4_ := f1_.symm;have f5_ := f3_.symm;clear f1_ f2_ f3_;subst f4_;subst f5_))
  refine hK.out _ _ ⟨(blk_cell BK454.out 0).trans rfl, (blk_cell BK454.out 1).trans rfl⟩ (fun hHeld => ?_)
  clear hK K
  refine norm_ (a' := ?_) ?_ ?_
  rotate_left
  ·show Act.put _ (some 24) _ = _
   simp only [Act.put, List.setIfInBounds_toArray, List.set_cons_zero, List.set_cons_succ, i64_w, i32_w]
   rfl
  refine pure_ (i := 10) (N := some 25) (v := ?_) (a' := ?_) #[true,true,true,true,true,true,true,true,true,true,true,false] rfl rfl (any_of HT_.out (by kernel_rfl)) (fun _ _ _ h => h) (Or.inl ⟨by rfl, ?_⟩) ?_ ?_
  rotate_left
  ·intro w'
   go_simp
   with_reducible rfl
  rotate_left
  ·exact aP
  refine last_ (i := 11) (N := none) #[true,true,true,true,true,true,true,true,true,true,true,true] rfl rfl (one_of HT_.out (by kernel_rfl)) (by decide) (fun K hK => ?_)
  have hs32 : w30.cell? ⟨gb454, 1, none⟩ = some (.slice Ao23 l1_1.length co23) := (blk_cell BK454.out 1).trans rfl
  have hfs32 := blk_frozen BK454.out 1
  have hns32_1 := NB455_454.out
  have hms32_1 := NB454_455.out
  refine skip_ (w1 := ?_) (by rfl) rfl ?_ ?_
  rotate_left
  ·go_simp
   rfl
  refine hK.out _ _ ?_
  clear hK K
  refine done_ (done_of HT_.out (by kernel_rfl)) ?_
  have hnb33 := NB454_455.out
  have hnc33 := NB455_454.out
  have hnb34 := NB454_0.out
  have hnc34 := NB0_454.out
  have hcz35_0 := bC0 BK454.out
  have hcz35_1 := bC1 BK454.out
  have hfz35_0 := blk_frozen BK454.out 0
  have hfz35_1 := blk_frozen BK454.out 1
  have hnb36 := NB455_0.out
  have hnc36 := NB0_455.out
  have hcz37_0 := bC0 BK455.out
  have hcz37_1 := bC1 BK455.out
  have hfz37_0 := blk_frozen BK455.out 0
  have hfz37_1 := blk_frozen BK455.out 1
  try go_wp2
  refine bodyPost_ret (results_cell_row rfl _ _ gb455 31 #[.int .i64 a1_0, .slice Ao31 y471.length co31] (0, 0) _ rfl (by refine kP ?_;refine blk_put (cs := #[.int .i64 a1_0, .slice none 0 0]) ?_ 1 _ rfl;refine kP ?_;refine blk_put (cs := #[.int .i64 0, .slice none 0 0]) ?_ 0 _ rfl;refine kP ?_;refine blk_far ?_ NB455_454.out _;exact kP BK455.out) Try.underlying31 rfl (by kernel_rfl)) rfl ?_
  exact ⟨_, by first | rfl | (simp [errW_none, errW_some] <;> rfl) | (simp [*, errW_none, errW_some] <;> rfl), by refine rP ?_;exact Kd.R_mono (Kd.R_far (p := ⟨gb455, 1, none⟩) (Kd.R_far (p := ⟨gb455, 0, none⟩) (Kd.R_far (p := ⟨gb454, 1, none⟩) (Kd.R_types (Kd.R_types HO473.out BK454.out (by decide)) BK455.out (by decide)) (fun _ hk => hk.1.2) (.slice Ao31 y471.length co31)) (fun _ hk => hk.2) (.int .i64 a1_0)) (fun _ hk => hk.2) (.slice Ao31 y471.length co31)) (fun _ hk => hk.1.1), by exact sS, by exact bB, by exact kE⟩
 rw [if_neg c19] at H
 have c19b0 : (t456 == 1) = false := beq_eq_false_iff_ne.mpr c19
 have c19b1 : (t456 != 1) = true := bne_iff_ne.mpr c19
 by_cases c38 : t456 = 2
 rotate_left
 ·rw [if_neg c38] at H
  have c38b0 : (t456 == 2) = false := beq_eq_false_iff_ne.mpr c38
  have c38b1 : (t456 != 2) = true := bne_iff_ne.mpr c38
  simp only [Option.some.injEq, Prod.mk.injEq] at H
  obtain ⟨rfl, rfl, rfl, rfl⟩ := H
  obtain ⟨Ao68, co68, eo68⟩ := Kd.R_slice HO1_1.out
  subst eo68
  go_enter Try.func138, Try.ntmps138
  go_wp2_with (first | ((with_reducible refine gate_dst (N := 3) rfl ?_);refine box_event ?hg (N := 3) ?hd (cs := #[.int .i64 a1_0, .slice Ao68 l1_1.length co68]) (t := 31) ?hr ?_;(case hd => rfl);(case hg => rfl);(case hr => first | (go_simp;done) | (go_simp;rfl));intro gb454 hg w69 hbox hb;have n0_ := aM (Kd.R_below (by exact rP HO1_1.out) hb);have n1_ := aM (IsS91.below (by repeat (first | (with_reducible first | exact HI0.out | apply IsS91.alloc | apply IsS91.drewN | apply IsS91.drew | apply IsS91.set_1 | apply IsS91.set_2) | exact HI0.out)) hb);have n2_ := aM (Kept.below (S := (fun k_ => (P1_1_ k_) ∨ k_ = g)) (by exact kE) hb);have n3_ := aM (below_step (by exact bB) hb);have n4_ := aM (hbox);have n5_ := aM ((by rw [hg];exact (by first | exact HK.out.1 | exact (show Kept w _ (fun k_ => (P1_1_ k_) ∨ k_ = g) from by exact kE).1) : w.heap.size ≤ gb454));have n6_ := aM (sW hg : w0.heap.size ≤ gb454);have n7_ := aM ((by rw [hg];exact Nat.ne_of_lt (IsS91.lt (show IsS91 w0 _ g s0_0 s0_1 s0_2 from by exact sS)) : g ≠ gb454));have n8_ := aM ((by rw [hg];exact Nat.ne_of_gt (IsS91.lt (show IsS91 w0 _ g s0_0 s0_1 s0_2 from by exact sS)) : gb454 ≠ g));clear HO1_1;clear HI0;clear HK;clear HB;have HO1_1 := n0_;have HI0 := n1_;have HK := n2_;have HB := n3_;have BK454 := n4_;have GW454 := n5_;have GE454 := n6_;have NB0_454 := n7_;have NB454_0 := n8_;clear n0_ n1_ n2_ n3_ n4_ n5_ n6_ n7_ n8_;clear hb hbox hg) | ((with_reducible refine gate_dst (N := 4) rfl ?_);refine box_event ?hg (N := 4) ?hd (cs := #[.int .i64 0, .slice none 0 0]) (t := 31) ?hr ?_;(case hd => rfl);(case hg => rfl);(case hr => first | (go_simp;done) | (go_simp;rfl));intro gb455 hg w70 hbox hb;have n0_ := aM (Kd.R_below (by exact rP HO1_1.out) hb);have n1_ := aM (IsS91.below (by repeat (first | (with_reducible first | exact HI0.out | apply IsS91.alloc | apply IsS91.drewN | apply IsS91.drew | apply IsS91.set_1 | apply IsS91.set_2 | refine IsS91.far ?_ NB0_454.out _) | exact HI0.out)) hb);have n2_ := aM (kB hb BK454.out);have n3_ := aM (Kept.below (S := (fun k_ => (P1_1_ k_) ∨ k_ = g)) (by exact kE) hb);have n4_ := aM (below_step (by exact bB) hb);have n5_ := aM (hbox);have n6_ := aM ((by rw [hg];exact (by first | exact HK.out.1 | exact (show Kept w _ (fun k_ => (P1_1_ k_) ∨ k_ = g) from by exact kE).1) : w.heap.size ≤ gb455));have n7_ := aM (sW hg : w0.heap.size ≤ gb455);have n8_ := aM (nL hg (kP BK454.out));have n9_ := aM (nG hg (kP BK454.out));have n10_ := aM ((by rw [hg];exact Nat.ne_of_lt (IsS91.lt (show IsS91 w0 _ g s0_0 s0_1 s0_2 from by exact sS)) : g ≠ gb455));have n11_ := aM ((by rw [hg];exact Nat.ne_of_gt (IsS91.lt (show IsS91 w0 _ g s0_0 s0_1 s0_2 from by exact sS)) : gb455 ≠ g));clear HO1_1;clear HI0;clear BK454;clear HK;clear HB;have HO1_1 := n0_;have HI0 := n1_;have BK454 := n2_;have HK := n3_;have HB := n4_;have BK455 := n5_;have GW455 := n6_;have GE455 := n7_;have NB454_455 := n8_;have NB455_454 := n9_;have NB0_455 := n10_;have NB455_0 := n11_;clear n0_ n1_ n2_ n3_ n4_ n5_ n6_ n7_ n8_ n9_ n10_ n11_;clear hb hbox hg) | ((with_reducible refine gate_callee (f := 131) rfl ?_);refine goesL_ (some 6) rfl rfl Try.func131 (by kernel_rfl) rfl #[.pointer (some ⟨g, 0, none⟩), .int .i64 50] rfl mM ?_;(with_reducible refine (spec_l1Cur_pick.calls g s0_0 s0_1 s0_2 50 t456 t457 t458 w0 _ ?side1 ?side2 A3.out).mono ?_);(case side1 => exact sS);(case side2 => exact bB);rintro e w71 ⟨rfl, hi, hb, hk⟩;refine ⟨_, rfl, ?_⟩;have n0_ := aM (Kd.R_mono (Kd.R_keep (IsS91.apart (show IsS91 w0 _ g s0_0 s0_1 s0_2 from by exact sS) (by exact rP HO1_1.out) (by decide)) hk (fun _ h => h.2)) (fun _ h => h.1));have n1_ := aM (KeepBut.blk hk (g' := gb454) (o := .cells #[.int .i64 a1_0, .slice Ao68 l1_1.length co68] 31 (0, 0)) (by exact kP BK454.out) NB454_0.out (by simp));have n2_ := aM (KeepBut.blk hk (g' := gb455) (o := .cells #[.int .i64 0, .slice none 0 0] 31 (0, 0)) (by exact kP BK455.out) NB455_0.out (by simp));have n3_ := aM (Kept.of_keep (S := (fun k_ => (P1_1_ k_) ∨ k_ = g)) (by exact kE) hk (.inl (.inr rfl)));have n4_ := aM (hb);have n5_ := aM (hi);clear HO1_1;clear BK454;clear BK455;clear HK;clear HB;clear HI0;have HO1_1 := n0_;have BK454 := n1_;have BK455 := n2_;have HK := n3_;have HB := n4_;have HI0 := n5_;clear n0_ n1_ n2_ n3_ n4_ n5_;(try clear hb);(try clear hb2);(try clear hk);(try clear hi);have hnb72 := NB454_455.out;have hnc72 := NB455_454.out;have hnb73 := NB454_0.out;have hnc73 := NB0_454.out;have hcz74_0 := bC0 BK454.out;have hcz74_1 := bC1 BK454.out;have hfz74_0 := blk_frozen BK454.out 0;have hfz74_1 := blk_frozen BK454.out 1;have hnb75 := NB455_0.out;have hnc75 := NB0_455.out;have hcz76_0 := bC0 BK455.out;have hcz76_1 := bC1 BK455.out;have hfz76_0 := blk_frozen BK455.out 0;have hfz76_1 := blk_frozen BK455.out 1))
  refine bodyPost_ret (results_cell_row rfl _ _ gb455 31 #[.int .i64 a1_0, .slice Ao68 l1_1.length co68] (0, 0) _ rfl (by refine kP ?_;refine blk_put (cs := #[.int .i64 a1_0, .slice none 0 0]) ?_ 1 _ rfl;refine kP ?_;refine blk_put (cs := #[.int .i64 0, .slice none 0 0]) ?_ 0 _ rfl;exact kP BK455.out) Try.underlying31 rfl (by kernel_rfl)) rfl ?_
  exact ⟨_, by first | rfl | (simp [errW_none, errW_some] <;> rfl) | (simp [*, errW_none, errW_some] <;> rfl), by refine rP ?_;exact Kd.R_mono (Kd.R_far (p := ⟨gb455, 1, none⟩) (Kd.R_far (p := ⟨gb455, 0, none⟩) (Kd.R_types HO1_1.out BK455.out (by decide)) (fun _ hk => hk.2) (.int .i64 a1_0)) (fun _ hk => hk.2) (.slice Ao68 l1_1.length co68)) (fun _ hk => hk.1), by exact sS, by exact bB, by exact kE⟩
 rw [if_pos c38] at H
 have c38b0 : (t456 == 2) = true := beq_iff_eq.mpr c38
 have c38b1 : (t456 != 2) = false := bne_eq_false_iff_eq.mpr c38
 clear c38
 by_cases c39 : (l1_1.length : Int) > 0
 rotate_left
 ·rw [if_neg c39] at H
  have c39b0 : decide (0 < (l1_1.length : Int)) = false := decide_eq_false c39
  have c39b1 : decide (0 < l1_1.length) = false := decide_eq_false (by omega)
  clear c39
  simp only [Option.some.injEq, Prod.mk.injEq] at H
  obtain ⟨rfl, rfl, rfl, rfl⟩ := H
  obtain ⟨Ao59, co59, eo59⟩ := Kd.R_slice HO1_1.out
  subst eo59
  go_enter Try.func138, Try.ntmps138
  go_wp2_with (first | ((with_reducible refine gate_dst (N := 3) rfl ?_);refine box_event ?hg (N := 3) ?hd (cs := #[.int .i64 a1_0, .slice Ao59 l1_1.length co59]) (t := 31) ?hr ?_;(case hd => rfl);(case hg => rfl);(case hr => first | (go_simp;done) | (go_simp;rfl));intro gb454 hg w60 hbox hb;have n0_ := aM (Kd.R_below (by exact rP HO1_1.out) hb);have n1_ := aM (IsS91.below (by repeat (first | (with_reducible first | exact HI0.out | apply IsS91.alloc | apply IsS91.drewN | apply IsS91.drew | apply IsS91.set_1 | apply IsS91.set_2) | exact HI0.out)) hb);have n2_ := aM (Kept.below (S := (fun k_ => (P1_1_ k_) ∨ k_ = g)) (by exact kE) hb);have n3_ := aM (below_step (by exact bB) hb);have n4_ := aM (hbox);have n5_ := aM ((by rw [hg];exact (by first | exact HK.out.1 | exact (show Kept w _ (fun k_ => (P1_1_ k_) ∨ k_ = g) from by exact kE).1) : w.heap.size ≤ gb454));have n6_ := aM (sW hg : w0.heap.size ≤ gb454);have n7_ := aM ((by rw [hg];exact Nat.ne_of_lt (IsS91.lt (show IsS91 w0 _ g s0_0 s0_1 s0_2 from by exact sS)) : g ≠ gb454));have n8_ := aM ((by rw [hg];exact Nat.ne_of_gt (IsS91.lt (show IsS91 w0 _ g s0_0 s0_1 s0_2 from by exact sS)) : gb454 ≠ g));clear HO1_1;clear HI0;clear HK;clear HB;have HO1_1 := n0_;have HI0 := n1_;have HK := n2_;have HB := n3_;have BK454 := n4_;have GW454 := n5_;have GE454 := n6_;have NB0_454 := n7_;have NB454_0 := n8_;clear n0_ n1_ n2_ n3_ n4_ n5_ n6_ n7_ n8_;clear hb hbox hg) | ((with_reducible refine gate_dst (N := 4) rfl ?_);refine box_event ?hg (N := 4) ?hd (cs := #[.int .i64 0, .slice none 0 0]) (t := 31) ?hr ?_;(case hd => rfl);(case hg => rfl);(case hr => first | (go_simp;done) | (go_simp;rfl));intro gb455 hg w61 hbox hb;have n0_ := aM (Kd.R_below (by exact rP HO1_1.out) hb);have n1_ := aM (IsS91.below (by repeat (first | (with_reducible first | exact HI0.out | apply IsS91.alloc | apply IsS91.drewN | apply IsS91.drew | apply IsS91.set_1 | apply IsS91.set_2 | refine IsS91.far ?_ NB0_454.out _) | exact HI0.out)) hb);have n2_ := aM (kB hb BK454.out);have n3_ := aM (Kept.below (S := (fun k_ => (P1_1_ k_) ∨ k_ = g)) (by exact kE) hb);have n4_ := aM (below_step (by exact bB) hb);have n5_ := aM (hbox);have n6_ := aM ((by rw [hg];exact (by first | exact HK.out.1 | exact (show Kept w _ (fun k_ => (P1_1_ k_) ∨ k_ = g) from by exact kE).1) : w.heap.size ≤ gb455));have n7_ := aM (sW hg : w0.heap.size ≤ gb455);have n8_ := aM (nL hg (kP BK454.out));have n9_ := aM (nG hg (kP BK454.out));have n10_ := aM ((by rw [hg];exact Nat.ne_of_lt (IsS91.lt (show IsS91 w0 _ g s0_0 s0_1 s0_2 from by exact sS)) : g ≠ gb455));have n11_ := aM ((by rw [hg];exact Nat.ne_of_gt (IsS91.lt (show IsS91 w0 _ g s0_0 s0_1 s0_2 from by exact sS)) : gb455 ≠ g));clear HO1_1;clear HI0;clear BK454;clear HK;clear HB;have HO1_1 := n0_;have HI0 := n1_;have BK454 := n2_;have HK := n3_;have HB := n4_;have BK455 := n5_;have GW455 := n6_;have GE455 := n7_;have NB454_455 := n8_;have NB455_454 := n9_;have NB0_455 := n10_;have NB455_0 := n11_;clear n0_ n1_ n2_ n3_ n4_ n5_ n6_ n7_ n8_ n9_ n10_ n11_;clear hb hbox hg) | ((with_reducible refine gate_callee (f := 131) rfl ?_);refine goesL_ (some 6) rfl rfl Try.func131 (by kernel_rfl) rfl #[.pointer (some ⟨g, 0, none⟩), .int .i64 50] rfl mM ?_;(with_reducible refine (spec_l1Cur_pick.calls g s0_0 s0_1 s0_2 50 t456 t457 t458 w0 _ ?side1 ?side2 A3.out).mono ?_);(case side1 => exact sS);(case side2 => exact bB);rintro e w62 ⟨rfl, hi, hb, hk⟩;refine ⟨_, rfl, ?_⟩;have n0_ := aM (Kd.R_mono (Kd.R_keep (IsS91.apart (show IsS91 w0 _ g s0_0 s0_1 s0_2 from by exact sS) (by exact rP HO1_1.out) (by decide)) hk (fun _ h => h.2)) (fun _ h => h.1));have n1_ := aM (KeepBut.blk hk (g' := gb454) (o := .cells #[.int .i64 a1_0, .slice Ao59 l1_1.length co59] 31 (0, 0)) (by exact kP BK454.out) NB454_0.out (by simp));have n2_ := aM (KeepBut.blk hk (g' := gb455) (o := .cells #[.int .i64 0, .slice none 0 0] 31 (0, 0)) (by exact kP BK455.out) NB455_0.out (by simp));have n3_ := aM (Kept.of_keep (S := (fun k_ => (P1_1_ k_) ∨ k_ = g)) (by exact kE) hk (.inl (.inr rfl)));have n4_ := aM (hb);have n5_ := aM (hi);clear HO1_1;clear BK454;clear BK455;clear HK;clear HB;clear HI0;have HO1_1 := n0_;have BK454 := n1_;have BK455 := n2_;have HK := n3_;have HB := n4_;have HI0 := n5_;clear n0_ n1_ n2_ n3_ n4_ n5_;(try clear hb);(try clear hb2);(try clear hk);(try clear hi);have hnb63 := NB454_455.out;have hnc63 := NB455_454.out;have hnb64 := NB454_0.out;have hnc64 := NB0_454.out;have hcz65_0 := bC0 BK454.out;have hcz65_1 := bC1 BK454.out;have hfz65_0 := blk_frozen BK454.out 0;have hfz65_1 := blk_frozen BK454.out 1;have hnb66 := NB455_0.out;have hnc66 := NB0_455.out;have hcz67_0 := bC0 BK455.out;have hcz67_1 := bC1 BK455.out;have hfz67_0 := blk_frozen BK455.out 0;have hfz67_1 := blk_frozen BK455.out 1))
  refine bodyPost_ret (results_cell_row rfl _ _ gb455 31 #[.int .i64 a1_0, .slice Ao59 l1_1.length co59] (0, 0) _ rfl (by refine kP ?_;refine blk_put (cs := #[.int .i64 a1_0, .slice none 0 0]) ?_ 1 _ rfl;refine kP ?_;refine blk_put (cs := #[.int .i64 0, .slice none 0 0]) ?_ 0 _ rfl;exact kP BK455.out) Try.underlying31 rfl (by kernel_rfl)) rfl ?_
  exact ⟨_, by first | rfl | (simp [errW_none, errW_some] <;> rfl) | (simp [*, errW_none, errW_some] <;> rfl), by refine rP ?_;exact Kd.R_mono (Kd.R_far (p := ⟨gb455, 1, none⟩) (Kd.R_far (p := ⟨gb455, 0, none⟩) (Kd.R_types HO1_1.out BK455.out (by decide)) (fun _ hk => hk.2) (.int .i64 a1_0)) (fun _ hk => hk.2) (.slice Ao59 l1_1.length co59)) (fun _ hk => hk.1), by exact sS, by exact bB, by exact kE⟩
 rw [if_pos c39] at H
 have c39b0 : decide (0 < (l1_1.length : Int)) = true := decide_eq_true c39
 have c39b1 : decide (0 < l1_1.length) = true := decide_eq_true (by omega)
 clear c39
 replace H := Option.bind_eq_some_iff.mp H
 obtain ⟨⟨t474, t475, t476⟩, A400, H⟩ := H
 replace H : (if 0 ≤ t474 then (if t474 < (l1_1.length : Int) then (if l1_1.length < 8796093022208 then (some (a1_0, (l1_1 ++ [(⟨(rd_T119 l1_1 t474).f0, (rd_T119 l1_1 t474).f1⟩ : S119)]), t475, t476)) else (none)) else (none)) else (none)) = some (r1, r2, r3, r4) := H
 have A40 := Aside0.mk A400
 clear A400
 by_cases c41 : 0 ≤ t474
 rotate_left
 ·rw [if_neg c41] at H
  exact absurd H (by simp)
 rw [if_pos c41] at H
 have c41b0 : decide (0 ≤ t474) = true := decide_eq_true c41
 clear c41
 by_cases c42 : t474 < (l1_1.length : Int)
 rotate_left
 ·rw [if_neg c42] at H
  exact absurd H (by simp)
 rw [if_pos c42] at H
 have c42b0 : decide (t474 < (l1_1.length : Int)) = true := decide_eq_true c42
 clear c42
 by_cases c43 : l1_1.length < 8796093022208
 rotate_left
 ·rw [if_neg c43] at H
  exact absurd H (by simp)
 rw [if_pos c43] at H
 have LMc43 := Aside0.mk c43
 clear c43
 obtain ⟨y478, hy478⟩ : ∃ y_ : List (S119), y_ = (l1_1 ++ [(⟨(rd_T119 l1_1 t474).f0, (rd_T119 l1_1 t474).f1⟩ : S119)]) := ⟨_, rfl⟩
 replace H : (some (a1_0, y478, t475, t476)) = some (r1, r2, r3, r4) := by first | (rw [hy478];with_reducible exact H) | (have H2_ := (Option.bind_some _ _).symm.trans H;rw [hy478];with_reducible exact H2_) | (have H2_ := (Option.bind_some _ _).symm.trans H;with_reducible exact H2_) | with_reducible exact H | (rw [hy478];exact H) | exact H
 have Ny478 := Aside0.mk hy478
 clear hy478
 simp only [Option.some.injEq, Prod.mk.injEq] at H
 obtain ⟨rfl, rfl, rfl, rfl⟩ := H
 obtain ⟨Ao44, co44, eo44⟩ := Kd.R_slice HO1_1.out
 subst eo44
 go_enter Try.func138, Try.ntmps138
 try go_wp2_with (first | ((with_reducible refine gate_dst (N := 3) rfl ?_);refine box_event ?hg (N := 3) ?hd (cs := #[.int .i64 a1_0, .slice Ao44 l1_1.length co44]) (t := 31) ?hr ?_;(case hd => rfl);(case hg => rfl);(case hr => first | (go_simp;done) | (go_simp;rfl));intro gb454 hg w45 hbox hb;have n0_ := aM (Kd.R_below (by exact rP HO1_1.out) hb);have n1_ := aM (IsS91.below (by repeat (first | (with_reducible first | exact HI0.out | apply IsS91.alloc | apply IsS91.drewN | apply IsS91.drew | apply IsS91.set_1 | apply IsS91.set_2) | exact HI0.out)) hb);have n2_ := aM (Kept.below (S := (fun k_ => (P1_1_ k_) ∨ k_ = g)) (by exact kE) hb);have n3_ := aM (below_step (by exact bB) hb);have n4_ := aM (hbox);have n5_ := aM ((by rw [hg];exact (by first | exact HK.out.1 | exact (show Kept w _ (fun k_ => (P1_1_ k_) ∨ k_ = g) from by exact kE).1) : w.heap.size ≤ gb454));have n6_ := aM (sW hg : w0.heap.size ≤ gb454);have n7_ := aM ((by rw [hg];exact Nat.ne_of_lt (IsS91.lt (show IsS91 w0 _ g s0_0 s0_1 s0_2 from by exact sS)) : g ≠ gb454));have n8_ := aM ((by rw [hg];exact Nat.ne_of_gt (IsS91.lt (show IsS91 w0 _ g s0_0 s0_1 s0_2 from by exact sS)) : gb454 ≠ g));clear HO1_1;clear HI0;clear HK;clear HB;have HO1_1 := n0_;have HI0 := n1_;have HK := n2_;have HB := n3_;have BK454 := n4_;have GW454 := n5_;have GE454 := n6_;have NB0_454 := n7_;have NB454_0 := n8_;clear n0_ n1_ n2_ n3_ n4_ n5_ n6_ n7_ n8_;clear hb hbox hg) | ((with_reducible refine gate_dst (N := 4) rfl ?_);refine box_event ?hg (N := 4) ?hd (cs := #[.int .i64 0, .slice none 0 0]) (t := 31) ?hr ?_;(case hd => rfl);(case hg => rfl);(case hr => first | (go_simp;done) | (go_simp;rfl));intro gb455 hg w46 hbox hb;have n0_ := aM (Kd.R_below (by exact rP HO1_1.out) hb);have n1_ := aM (IsS91.below (by repeat (first | (with_reducible first | exact HI0.out | apply IsS91.alloc | apply IsS91.drewN | apply IsS91.drew | apply IsS91.set_1 | apply IsS91.set_2 | refine IsS91.far ?_ NB0_454.out _) | exact HI0.out)) hb);have n2_ := aM (kB hb BK454.out);have n3_ := aM (Kept.below (S := (fun k_ => (P1_1_ k_) ∨ k_ = g)) (by exact kE) hb);have n4_ := aM (below_step (by exact bB) hb);have n5_ := aM (hbox);have n6_ := aM ((by rw [hg];exact (by first | exact HK.out.1 | exact (show Kept w _ (fun k_ => (P1_1_ k_) ∨ k_ = g) from by exact kE).1) : w.heap.size ≤ gb455));have n7_ := aM (sW hg : w0.heap.size ≤ gb455);have n8_ := aM (nL hg (kP BK454.out));have n9_ := aM (nG hg (kP BK454.out));have n10_ := aM ((by rw [hg];exact Nat.ne_of_lt (IsS91.lt (show IsS91 w0 _ g s0_0 s0_1 s0_2 from by exact sS)) : g ≠ gb455));have n11_ := aM ((by rw [hg];exact Nat.ne_of_gt (IsS91.lt (show IsS91 w0 _ g s0_0 s0_1 s0_2 from by exact sS)) : gb455 ≠ g));clear HO1_1;clear HI0;clear BK454;clear HK;clear HB;have HO1_1 := n0_;have HI0 := n1_;have BK454 := n2_;have HK := n3_;have HB := n4_;have BK455 := n5_;have GW455 := n6_;have GE455 := n7_;have NB454_455 := n8_;have NB455_454 := n9_;have NB0_455 := n10_;have NB455_0 := n11_;clear n0_ n1_ n2_ n3_ n4_ n5_ n6_ n7_ n8_ n9_ n10_ n11_;clear hb hbox hg) | ((with_reducible refine gate_callee (f := 131) rfl ?_);refine goesL_ (some 6) rfl rfl Try.func131 (by kernel_rfl) rfl #[.pointer (some ⟨g, 0, none⟩), .int .i64 50] rfl mM ?_;(with_reducible refine (spec_l1Cur_pick.calls g s0_0 s0_1 s0_2 50 t456 t457 t458 w0 _ ?side1 ?side2 A3.out).mono ?_);(case side1 => exact sS);(case side2 => exact bB);rintro e w47 ⟨rfl, hi, hb, hk⟩;refine ⟨_, rfl, ?_⟩;have n0_ := aM (Kd.R_mono (Kd.R_keep (IsS91.apart (show IsS91 w0 _ g s0_0 s0_1 s0_2 from by exact sS) (by exact rP HO1_1.out) (by decide)) hk (fun _ h => h.2)) (fun _ h => h.1));have n1_ := aM (KeepBut.blk hk (g' := gb454) (o := .cells #[.int .i64 a1_0, .slice Ao44 l1_1.length co44] 31 (0, 0)) (by exact kP BK454.out) NB454_0.out (by simp));have n2_ := aM (KeepBut.blk hk (g' := gb455) (o := .cells #[.int .i64 0, .slice none 0 0] 31 (0, 0)) (by exact kP BK455.out) NB455_0.out (by simp));have n3_ := aM (Kept.of_keep (S := (fun k_ => (P1_1_ k_) ∨ k_ = g)) (by exact kE) hk (.inl (.inr rfl)));have n4_ := aM (hb);have n5_ := aM (hi);clear HO1_1;clear BK454;clear BK455;clear HK;clear HB;clear HI0;have HO1_1 := n0_;have BK454 := n1_;have BK455 := n2_;have HK := n3_;have HB := n4_;have HI0 := n5_;clear n0_ n1_ n2_ n3_ n4_ n5_;(try clear hb);(try clear hb2);(try clear hk);(try clear hi);have hnb48 := NB454_455.out;have hnc48 := NB455_454.out;have hnb49 := NB454_0.out;have hnc49 := NB0_454.out;have hcz50_0 := bC0 BK454.out;have hcz50_1 := bC1 BK454.out;have hfz50_0 := blk_frozen BK454.out 0;have hfz50_1 := blk_frozen BK454.out 1))
 have n0_ := aM (Kd.R_drew HO1_1.out)
 have n1_ := aM (blk_drew BK454.out)
 have n2_ := aM (blk_drew BK455.out)
 have n3_ := aM (IsS91.drew HI0.out)
 have n4_ := aM (Kept.drew HK.out)
 have n5_ := aM (below_drew1 HB.out)
 clear HO1_1
 clear BK454
 clear BK455
 clear HI0
 clear HK
 clear HB
 have HO1_1 := n0_
 have BK454 := n1_
 have BK455 := n2_
 have HI0 := n3_
 have HK := n4_
 have HB := n5_
 clear n0_ n1_ n2_ n3_ n4_ n5_
 have p477 : 0 ≤ (t474 : Int) := oA
 have q477 : t474 < (l1_1.length : Int) := oA
 obtain ⟨ad477, e477, hx477_0, hx477_1⟩ := at_T119 (Kd.R_reads' HO1_1.out).2.2 t474 p477 q477
 cases e477
 replace p477 := eq_true p477
 replace q477 := eq_true q477
 refine start_ (n := 15) (S := fun w' => w'.cell? ⟨gb454, 0, none⟩ = some (.int .i64 a1_0) ∧ w'.cell? ⟨gb454, 1, none⟩ = some (.slice (some ad477) l1_1.length co44) ∧ w'.cell? (ad477.add ((t474).toNat * 2)) = some (.int .i64 ((rd_T119 l1_1 t474).f0)) ∧ w'.cell? ⟨(ad477.add ((t474).toNat * 2)).block, (ad477.add ((t474).toNat * 2)).off + 1, none⟩ = some (.int .i64 ((rd_T119 l1_1 t474).f1))) (ds := [12, 14]) #[false,false,false,false,false,false,false,false,false,false,false,false,false,false,false] (by kernel_rfl) rfl rfl ⟨(blk_cell BK454.out 0).trans rfl, (blk_cell BK454.out 1).trans rfl, hx477_0, hx477_1⟩ (fun hHeld => ?_);refine with_tabW spec_l1Cur_marred.tab8 spec_l1Cur_marred.bits8 (fun HT_ HW_ => ?_)
 generalize w47.drew = w51 at HO1_1 BK454 BK455 HI0 HK HB hx477_0 hx477_1 hHeld ⊢
 refine pure_ (i := 0) (N := some 32) (v := ?_) (a' := ?_) #[true,false,false,false,false,false,false,false,false,false,false,false,false,false,false] rfl rfl (any_of HT_.out (by kernel_rfl)) (fun _ _ _ h => h) (Or.inl ⟨by rfl, ?_⟩) ?_ ?_
 rotate_left
 ·intro w'
  go_simp
  with_reducible rfl
 rotate_left
 ·exact aP
 refine pure_ (i := 2) (N := some 34) (v := ?_) (a' := ?_) #[true,false,true,false,false,false,false,false,false,false,false,false,false,false,false] rfl rfl (any_of HT_.out (by kernel_rfl)) (fun _ _ _ h => h) (Or.inl ⟨by rfl, ?_⟩) ?_ ?_
 rotate_left
 ·intro w'
  go_simp
  with_reducible rfl
 rotate_left
 ·exact aP
 refine pure_ (i := 4) (N := some 36) (v := ?_) (a' := ?_) #[true,false,true,false,true,false,false,false,false,false,false,false,false,false,false] rfl rfl (any_of HT_.out (by kernel_rfl)) (fun _ _ _ h => h) (Or.inl ⟨by rfl, ?_⟩) ?_ ?_
 rotate_left
 ·intro w'
  go_simp
  with_reducible rfl
 rotate_left
 ·exact aP
 refine pure_ (i := 5) (N := some 37) (v := ?_) (a' := ?_) #[true,false,true,false,true,true,false,false,false,false,false,false,false,false,false] rfl rfl (any_of HT_.out (by kernel_rfl)) (fun _ _ _ h => h) (Or.inl ⟨by rfl, ?_⟩) ?_ ?_
 rotate_left
 ·intro w'
  go_simp
  with_reducible rfl
 rotate_left
 ·exact aP
 refine take_ (i := 1) (N := some 33) (v := ?_) (a' := ?_) #[true,true,true,false,true,true,false,false,false,false,false,false,false,false,false] rfl rfl (take_ofW HT_.out HW_.out (by kernel_rfl)) (fun _ _ _ h => h) (Or.inl ⟨by rfl, ?_⟩) hHeld ?_ ?_
 rotate_left
 ·rintro w' ⟨s0, s1, s2, s3⟩
  go_simp
  with_reducible rfl
 rotate_left
 ·exact aP
 refine take_ (i := 3) (N := some 35) (v := ?_) (a' := ?_) #[true,true,true,true,true,true,false,false,false,false,false,false,false,false,false] rfl rfl (take_ofW HT_.out HW_.out (by kernel_rfl)) (fun _ _ _ h => h) (Or.inl ⟨by rfl, ?_⟩) hHeld ?_ ?_
 rotate_left
 ·rintro w' ⟨s0, s1, s2, s3⟩
  go_simp
  with_reducible rfl
 rotate_left
 ·exact aP
 refine take_ (i := 6) (N := some 38) (v := ?_) (a' := ?_) #[true,true,true,true,true,true,true,false,false,false,false,false,false,false,false] rfl rfl (take_ofW HT_.out HW_.out (by kernel_rfl)) (fun _ _ _ h => h) (Or.inl ⟨by rfl, ?_⟩) hHeld ?_ ?_
 rotate_left
 ·rintro w' ⟨s0, s1, s2, s3⟩
  go_simp
  with_reducible rfl
 rotate_left
 ·exact aP
 refine pure_ (i := 7) (N := some 39) (v := ?_) (a' := ?_) #[true,true,true,true,true,true,true,true,false,false,false,false,false,false,false] rfl rfl (any_of HT_.out (by kernel_rfl)) (fun _ _ _ h => h) (Or.inl ⟨by rfl, ?_⟩) ?_ ?_
 rotate_left
 ·intro w'
  go_simp
  with_reducible rfl
 rotate_left
 ·exact aP
 refine one_ (i := 8) (N := some 40) #[true,true,true,true,true,true,true,true,true,false,false,false,false,false,false] rfl rfl (one_of HT_.out (by kernel_rfl)) (by decide) (fun K hK => ?_)
 refine goes_ Try.func131 (by kernel_rfl) rfl #[.pointer (some ⟨g, 0, none⟩), .int .i64 (l1_1.length : Int)] (by rfl) rfl rfl mM ?_
 with_reducible refine (spec_l1Cur_pick.calls g s0_0 t457 t458 (l1_1.length : Int) t474 t475 t476 w0 _ ?side1 ?side2 A40.out).mono ?_
 (case side1 => exact sS)
 (case side2 => exact bB)
 rintro e w52 ⟨rfl, hi, hb, hk⟩
 have HS2_ := keep_cell hk (hHeld.2.2.1) (by first | (rw [add_block];exact Kd.own_blk (IsS91.own_ne HI0.out HO1_1.out (by decide))) | (show (Addr.add _ _).block ≠ _;rw [add_block];exact Kd.own_blk (IsS91.own_ne HI0.out HO1_1.out (by decide))) | exact Kd.own_blk (IsS91.own_ne HI0.out HO1_1.out (by decide)))
 have HS3_ := keep_cell hk (hHeld.2.2.2) (by first | (rw [add_block];exact Kd.own_blk (IsS91.own_ne HI0.out HO1_1.out (by decide))) | (show (Addr.add _ _).block ≠ _;rw [add_block];exact Kd.own_blk (IsS91.own_ne HI0.out HO1_1.out (by decide))) | exact Kd.own_blk (IsS91.own_ne HI0.out HO1_1.out (by decide)))
 refine ⟨_, rfl, ?_⟩
 have n0_ := aM (Kd.R_mono (Kd.R_keep (IsS91.apart (show IsS91 w0 _ g s0_0 t457 t458 from by exact sS) (by exact rP HO1_1.out) (by decide)) hk (fun _ h => h.2)) (fun _ h => h.1))
 have n1_ := aM (KeepBut.blk hk (g' := gb454) (o := .cells #[.int .i64 a1_0, .slice (some ad477) l1_1.length co44] 31 (0, 0)) (by exact kP BK454.out) NB454_0.out (by simp))
 have n2_ := aM (KeepBut.blk hk (g' := gb455) (o := .cells #[.int .i64 0, .slice none 0 0] 31 (0, 0)) (by exact kP BK455.out) NB455_0.out (by simp))
 have n3_ := aM (Kept.of_keep (S := (fun k_ => (P1_1_ k_) ∨ k_ = g)) (by exact kE) hk (.inl (.inr rfl)))
 have n4_ := aM (hb)
 have n5_ := aM (hi)
 clear HO1_1
 clear BK454
 clear BK455
 clear HK
 clear HB
 clear HI0
 have HO1_1 := n0_
 have BK454 := n1_
 have BK455 := n2_
 have HK := n3_
 have HB := n4_
 have HI0 := n5_
 clear n0_ n1_ n2_ n3_ n4_ n5_
 (try clear hb)
 (try clear hb2)
 (try clear hk)
 (try clear hi)
 refine hK.out _ _ ⟨(blk_cell BK454.out 0).trans rfl, (blk_cell BK454.out 1).trans rfl, HS2_, HS3_⟩ (fun hHeld => ?_)
 clear hK K
 refine norm_ (a' := ?_) ?_ ?_
 rotate_left
 ·show Act.put _ (some 40) _ = _
  simp only [Act.put, List.setIfInBounds_toArray, List.set_cons_zero, List.set_cons_succ, i64_w, i32_w]
  rfl
 refine pure_ (i := 9) (N := some 41) (v := ?_) (a' := ?_) #[true,true,true,true,true,true,true,true,true,true,false,false,false,false,false] rfl rfl (any_of HT_.out (by kernel_rfl)) (fun _ _ _ h => h) (Or.inl ⟨by rfl, ?_⟩) ?_ ?_
 rotate_left
 ·intro w'
  go_simp
  with_reducible rfl
 rotate_left
 ·exact aP
 refine take_ (i := 10) (N := some 42) (v := ?_) (a' := ?_) #[true,true,true,true,true,true,true,true,true,true,true,false,false,false,false] rfl rfl (take_ofW HT_.out HW_.out (by kernel_rfl)) (fun _ _ _ h => h) (Or.inl ⟨by rfl, ?_⟩) hHeld ?_ ?_
 rotate_left
 ·rintro w' ⟨s0, s1, s2, s3⟩
  go_simp
  with_reducible rfl
 rotate_left
 ·exact aP
 refine one_ (i := 11) (N := some 43) #[true,true,true,true,true,true,true,true,true,true,true,true,false,false,false] rfl rfl (one_of HT_.out (by kernel_rfl)) (by decide) (fun K hK => ?_)
 refine value_ (w1 := ?_) (v := ?_) (by rfl) rfl ?_ ?_
 rotate_left 2
 ·go_simp
  constructor
  ·rfl
  ·rfl
 refine hK.out _ _ ⟨(blk_cell (blk_alloc BK454.out _) 0).trans rfl, (blk_cell (blk_alloc BK454.out _) 1).trans rfl, (World.cell?_alloc_lt _ _ _ (World.block_lt_of_cell? _ _ (hHeld.2.2.1))).trans (hHeld.2.2.1), (World.cell?_alloc_lt _ _ _ (World.block_lt_of_cell? _ _ (hHeld.2.2.2))).trans (hHeld.2.2.2)⟩ (fun hHeld => ?_)
 clear hK K
 refine norm_ (a' := ?_) ?_ ?_
 rotate_left
 ·show Act.put _ (some 43) _ = _
  simp only [Act.put, List.setIfInBounds_toArray, List.set_cons_zero, List.set_cons_succ, i64_w, i32_w]
  rfl
 refine last_ (i := 12) (N := some 44) #[true,true,true,true,true,true,true,true,true,true,true,true,true,false,false] rfl rfl (one_of HT_.out (by kernel_rfl)) (by decide) (fun K hK => ?_)
 refine Kd.R_append_step k119 (w0 := w0) w0.heap.size (by rfl) (.tmp 33) (.tmp 43) 22 119 (.agg #[(.int .i64 0), (.int .i64 0)]) 16 rfl Try.underlying22 info119 rfl (by decide) (by omega) (.slice (some ad477) l1_1.length co44) l1_1 (⟨(rd_T119 l1_1 t474).f0, (rd_T119 l1_1 t474).f1⟩ : S119) [.int .i64 ((rd_T119 l1_1 t474).f0), .int .i64 ((rd_T119 l1_1 t474).f1)] (fun k_ => (P1_1_ k_ ∨ w.heap.size ≤ k_)) (fun _ => False) rfl rfl ?aP (fun _ hk => hk.elim) ?aF ?aO ?aB ?aS ?aL ?_
 (case aP => exact k119_mkM _ _ _ (⟨(rd_T119 l1_1 t474).f0, (rd_T119 l1_1 t474).f1⟩ : S119))
 (case aB => exact (by exact bB))
 (case aF => exact (fun k_ hk => (.inr (Nat.le_trans (by first | exact HK.out.1 | exact (show Kept w _ (fun k_ => (P1_1_ k_) ∨ k_ = g) from by exact kE).1) hk))))
 (case aO => exact (by exact rP HO1_1.out))
 (case aS => exact (below_size (by exact bB)))
 (case aL => have := LMc43.out;omega)
 intro v479 w53 ho hb hg hat
 rw [← Ny478.out] at ho
 have n0_ := aM (IsS91.grown (by exact sS) hg (IsS91.own_ne HI0.out HO1_1.out (by decide)))
 have n1_ := aM (blk_grown (g := gb454) (o := .cells #[.int .i64 a1_0, .slice (some ad477) l1_1.length co44] 31 (0, 0)) (by exact kP BK454.out) hg (Kd.R_ne HO1_1.out BK454.out (by decide)))
 have n2_ := aM (blk_grown (g := gb455) (o := .cells #[.int .i64 0, .slice none 0 0] 31 (0, 0)) (by exact kP BK455.out) hg (Kd.R_ne HO1_1.out BK455.out (by decide)))
 have n3_ := aM (hb)
 have n4_ := aM (Kept.of_grown (S := (fun k_ => (P1_1_ k_) ∨ k_ = g)) hg (by exact kE) (fun k_ e_ => Or.imp_left Or.inl ((HO1_1.out.1 k_ e_))))
 have n5_ := aM (ho)
 clear HI0
 clear BK454
 clear BK455
 clear HB
 clear HK
 clear HO1_1
 have HI0 := n0_
 have BK454 := n1_
 have BK455 := n2_
 have HB := n3_
 have HK := n4_
 have HO480 := n5_
 clear n0_ n1_ n2_ n3_ n4_ n5_
 clear ho hb hg hat
 obtain ⟨Ao54, co54, eo54⟩ := Kd.R_slice HO480.out
 (first | subst eo54 | (injection eo54 with f1_ f2_ f3_;have f4_ := f1_.symm;have f5_ := f3_.symm;clear f1_ f2_ f3_;subst f4_;subst f5_))
 refine hK.out _ _ ?_
 clear hK K
 refine norm_ (a' := ?_) ?_ ?_
 rotate_left
 ·show Act.put _ (some 44) _ = _
  simp only [Act.put, List.setIfInBounds_toArray, List.set_cons_zero, List.set_cons_succ, i64_w, i32_w]
  rfl
 refine pure_ (i := 13) (N := some 45) (v := ?_) (a' := ?_) #[true,true,true,true,true,true,true,true,true,true,true,true,true,true,false] rfl rfl (any_of HT_.out (by kernel_rfl)) (fun _ _ _ h => h) (Or.inl ⟨by rfl, ?_⟩) ?_ ?_
 rotate_left
 ·intro w'
  go_simp
  with_reducible rfl
 rotate_left
 ·exact aP
 refine last_ (i := 14) (N := none) #[true,true,true,true,true,true,true,true,true,true,true,true,true,true,true] rfl rfl (one_of HT_.out (by kernel_rfl)) (by decide) (fun K hK => ?_)
 have hs55 : w53.cell? ⟨gb454, 1, none⟩ = some (.slice (some ad477) l1_1.length co44) := (blk_cell BK454.out 1).trans rfl
 have hfs55 := blk_frozen BK454.out 1
 have hns55_1 := NB455_454.out
 have hms55_1 := NB454_455.out
 refine skip_ (w1 := ?_) (by rfl) rfl ?_ ?_
 rotate_left
 ·go_simp
  rfl
 refine hK.out _ _ ?_
 clear hK K
 refine done_ (done_of HT_.out (by kernel_rfl)) ?_
 have hcz56_0 := bC0 BK454.out
 have hcz56_1 := bC1 BK454.out
 have hfz56_0 := blk_frozen BK454.out 0
 have hfz56_1 := blk_frozen BK454.out 1
 have hnb57 := NB455_0.out
 have hnc57 := NB0_455.out
 have hcz58_0 := bC0 BK455.out
 have hcz58_1 := bC1 BK455.out
 have hfz58_0 := blk_frozen BK455.out 0
 have hfz58_1 := blk_frozen BK455.out 1
 try go_wp2
 refine bodyPost_ret (results_cell_row rfl _ _ gb455 31 #[.int .i64 a1_0, .slice Ao54 y478.length co54] (0, 0) _ rfl (by refine kP ?_;refine blk_put (cs := #[.int .i64 a1_0, .slice none 0 0]) ?_ 1 _ rfl;refine kP ?_;refine blk_put (cs := #[.int .i64 0, .slice none 0 0]) ?_ 0 _ rfl;refine kP ?_;refine blk_far ?_ NB455_454.out _;exact kP BK455.out) Try.underlying31 rfl (by kernel_rfl)) rfl ?_
 exact ⟨_, by first | rfl | (simp [errW_none, errW_some] <;> rfl) | (simp [*, errW_none, errW_some] <;> rfl), by refine rP ?_;exact Kd.R_mono (Kd.R_far (p := ⟨gb455, 1, none⟩) (Kd.R_far (p := ⟨gb455, 0, none⟩) (Kd.R_far (p := ⟨gb454, 1, none⟩) (Kd.R_types (Kd.R_types HO480.out BK454.out (by decide)) BK455.out (by decide)) (fun _ hk => hk.1.2) (.slice Ao54 y478.length co54)) (fun _ hk => hk.2) (.int .i64 a1_0)) (fun _ hk => hk.2) (.slice Ao54 y478.length co54)) (fun _ hk => hk.1.1), by exact sS, by exact bB, by exact kE⟩


end Go.Proofs.Ytmokkhfmbenleaa.QSpreading
