import Derived.Test.YtaddgielnfhhpaaQBestFirePlan0
import Derived.Test.YtaddgielnfhhpaaQBestFirePlan6
import Derived.Test.YtaddgielnfhhpaaQBestFirePlan7
import Derived.Test.YtaddgielnfhhpaaQBestFirePlan8
import Derived.Test.YtaddgielnfhhpaaQBestFirePlan9
namespace Go.Proofs.Ytaddgielnfhhpaa.QBestFirePlan
open Go.RowKit Go.Proofs.YtaddgielnfhhpaaW.PrintWords Go.Proofs.YtaddgielnfhhpaaW.PrintLast Go.Proofs.YtaddgielnfhhpaaW.PrintMore
attribute [local go_sem] max2_int min2_int max_two min_two max_three min_three max_four min_four   -- for this text's walks alone
set_option linter.unusedVariables false
set_option linter.unusedSimpArgs false
/-! ### spec_l8Best: function 50 -/
mutual
def spec_l8Best.l0 : Nat → Int → List (List Int) → Int → List (List Int) → Int → Int → List (S80) → List Int → List Int → Option ((List (List Int)) × Int)
 | 0, _, _, _, _, _, _, _, _, _ => none
 | k + 1, x2, x9, x10, x11, x12, x230000, x230001, x231000, x231001 => if x12 < (x11.length : Int) then (if 0 ≤ x12 then ((spec_l8Round.f k x230000 x230001 x231000 x231001 (rd_L2 x11 x12)).bind fun bt248 => ((spec_l8Best.f k x230000 x230001 bt248.1 bt248.2 x2).bind fun bt254 => (if bt254.2 > x10 then ((some (([rd_L2 x11 x12] : List (List Int)) : List (List Int))).bind fun y259 => (if y259.length + bt254.1.length < 5864062014805 then (spec_l8Best.l0 k x2 (y259 ++ bt254.1) bt254.2 x11 (wrap64 (x12 + 1)) x230000 x230001 x231000 x231001) else (none))) else (spec_l8Best.l0 k x2 x9 x10 x11 (wrap64 (x12 + 1)) x230000 x230001 x231000 x231001)))) else (none)) else (some (x9, x10))
def spec_l8Best.f : Nat → Int → List (S80) → List Int → List Int → Int → Option ((List (List Int)) × Int)
 | 0, _, _, _, _, _ => none
 | k + 1, a0_0, l0_1, l1_0, l1_1, a2 => (spec_l8Next.f k a0_0 l0_1 l1_0 l1_1).bind fun t231 => (if (t231.length : Int) = 0 then (some ((([] : List (List Int))), wrap64 (a0_0 - (l1_0.length : Int)))) else ((spec_l8Free.f k a0_0 l0_1 l1_0 l1_1).bind fun t237 => ((spec_l1Least.f a2 (t237.length : Int)).bind fun t243 => ((spec_l8Choices.f k t237 t243).bind fun t244 => (spec_l8Best.l0 k a2 (([] : List (List Int))) (-1) t244 0 a0_0 l0_1 l1_0 l1_1)))))
end
theorem spec_l8Best.mono_l : ∀ k, (∀ y0 y1 y2 y3 y4, LeO (spec_l8Best.f k y0 y1 y2 y3 y4) (spec_l8Best.f (k + 1) y0 y1 y2 y3 y4)) ∧ (∀ y0 y1 y2 y3 y4 y5 y6 y7 y8, LeO (spec_l8Best.l0 k y0 y1 y2 y3 y4 y5 y6 y7 y8) (spec_l8Best.l0 (k + 1) y0 y1 y2 y3 y4 y5 y6 y7 y8))
 | 0 => ⟨fun _ _ _ _ _ r h => by simp [spec_l8Best.f] at h, fun _ _ _ _ _ _ _ _ _ r h => by simp [spec_l8Best.l0] at h⟩
 | k + 1 => by
  obtain ⟨ih0, ih1⟩ := spec_l8Best.mono_l k
  refine ⟨?_, ?_⟩
  ·intro y0 y1 y2 y3 y4
   unfold spec_l8Best.f
   repeat' first
   | (with_reducible exact ih0 _ _ _ _ _)
   | (with_reducible exact ih1 _ _ _ _ _ _ _ _ _)
   | (with_reducible exact spec_l8Choices.mono _ _ _)
   | (with_reducible exact spec_l8Free.mono _ _ _ _ _)
   | (with_reducible exact spec_l8Next.mono _ _ _ _ _)
   | (with_reducible exact spec_l8Round.mono _ _ _ _ _ _)
   | (with_reducible exact LeO.refl _)
   | (with_reducible exact LeO.none _)
   | (with_reducible refine LeO.ite ?_ ?_)
   | (with_reducible refine LeO.bind ?_ (fun _ => ?_))
   | exact ih0 _ _ _ _ _
   | exact ih1 _ _ _ _ _ _ _ _ _
   | exact spec_l8Choices.mono _ _ _
   | exact spec_l8Free.mono _ _ _ _ _
   | exact spec_l8Next.mono _ _ _ _ _
   | exact spec_l8Round.mono _ _ _ _ _ _
   | exact LeO.none _
   | refine LeO.ite ?_ ?_
   | refine LeO.bind ?_ (fun _ => ?_)
  ·intro y0 y1 y2 y3 y4 y5 y6 y7 y8
   unfold spec_l8Best.l0
   repeat' first
   | (with_reducible exact ih0 _ _ _ _ _)
   | (with_reducible exact ih1 _ _ _ _ _ _ _ _ _)
   | (with_reducible exact spec_l8Choices.mono _ _ _)
   | (with_reducible exact spec_l8Free.mono _ _ _ _ _)
   | (with_reducible exact spec_l8Next.mono _ _ _ _ _)
   | (with_reducible exact spec_l8Round.mono _ _ _ _ _ _)
   | (with_reducible exact LeO.refl _)
   | (with_reducible exact LeO.none _)
   | (with_reducible refine LeO.ite ?_ ?_)
   | (with_reducible refine LeO.bind ?_ (fun _ => ?_))
   | exact ih0 _ _ _ _ _
   | exact ih1 _ _ _ _ _ _ _ _ _
   | exact spec_l8Choices.mono _ _ _
   | exact spec_l8Free.mono _ _ _ _ _
   | exact spec_l8Next.mono _ _ _ _ _
   | exact spec_l8Round.mono _ _ _ _ _ _
   | exact LeO.none _
   | refine LeO.ite ?_ ?_
   | refine LeO.bind ?_ (fun _ => ?_)
theorem spec_l8Best.mono : ∀ a0 a1 a2 a3 a4 k, LeO (spec_l8Best.f k a0 a1 a2 a3 a4) (spec_l8Best.f (k + 1) a0 a1 a2 a3 a4) := by
 intro a0 a1 a2 a3 a4 k
 obtain ⟨ih0, ih1⟩ := spec_l8Best.mono_l k
 exact ih0 a0 a1 a2 a3 a4
def spec_l8Best.T2 : Bool × List (List Nat × List Nat) := (true, [([], []), ([], []), ([1], [1]), ([], []), ([3], [3]), ([4], [4]), ([2, 5], [2, 5]), ([0, 0], [0]), ([6, 7, 0, 1, 2, 3, 4, 5, 6, 7], [6])])
def spec_l8Best.B2 : List Nat := [0, 0, 2, 0, 8, 24, 62, 1, 255]
theorem spec_l8Best.tab2 : rtab .any (opsOf Try.f50 2) = spec_l8Best.T2 := by kernel_rfl
theorem spec_l8Best.bits2 : waitsOk spec_l8Best.T2.2 spec_l8Best.B2 = true := by kernel_rfl
def spec_l8Best.T8 : Bool × List (List Nat × List Nat) := (true, [([], []), ([], []), ([], []), ([], []), ([], []), ([3, 4], [3, 4]), ([5], [5]), ([1, 2, 6], [1, 2, 6]), ([], []), ([0, 7, 8, 7], [0, 7, 8]), ([9], [9]), ([10], [10]), ([10], [10]), ([11, 9, 0, 1, 2, 3, 4, 5, 6, 7, 8, 9, 10, 11], [11]), ([12, 13, 0, 1, 2, 3, 4, 5, 6, 7, 8, 9, 10, 11, 12, 13], [12])])
def spec_l8Best.B8 : List Nat := [0, 0, 0, 0, 0, 24, 56, 126, 0, 511, 1023, 2047, 2047, 4095, 16383]
theorem spec_l8Best.tab8 : rtab .any (opsOf Try.f50 8) = spec_l8Best.T8 := by kernel_rfl
theorem spec_l8Best.bits8 : waitsOk spec_l8Best.T8.2 spec_l8Best.B8 = true := by kernel_rfl
set_option maxHeartbeats 8000000 in
set_option maxRecDepth 100000 in
theorem spec_l8Best.calls (k : Nat) : ∀ (a0_0 : Int) (A0_1 : Option Addr) (c0_1 : Nat) (l0_1 : List (S80)) (A1_0 : Option Addr) (c1_0 : Nat) (l1_0 : List Int) (A1_1 : Option Addr) (c1_1 : Nat) (l1_1 : List Int) (a2 : Int) (r1 : List (List Int)) (r2 : Int) (w : World) (hr0_1 : Kd.C k80 w A0_1 l0_1.length l0_1) (hc0_1 : l0_1.length ≤ c0_1) (hr1_0 : Kd.C (Kd.int .i64) w A1_0 l1_0.length l1_0) (hc1_0 : l1_0.length ≤ c1_0) (hr1_1 : Kd.C (Kd.int .i64) w A1_1 l1_1.length l1_1) (hc1_1 : l1_1.length ≤ c1_1) (h : spec_l8Best.f k a0_0 l0_1 l1_0 l1_1 a2 = some (r1, r2)),
  Calls Try.prog 50 #[.agg #[.int .i64 a0_0, .slice A0_1 l0_1.length c0_1], .agg #[.slice A1_0 l1_0.length c1_0, .slice A1_1 l1_1.length c1_1], .int .i64 a2] w fun e w' => ∃ v0_ : Value, e = .returned (.tuple #[v0_, .int .i64 r2]) ∧ Kd.N (Kd.slice 3 (Kd.int .i64)) 25 w' w.heap.size (fun k_ => (w.heap.size ≤ k_)) v0_ r1 ∧ Below w.heap.size w w' := by
 induction k using Nat.strongRecOn with
 | _ k ih =>
 intro a0_0 A0_1 c0_1 l0_1 A1_0 c1_0 l1_0 A1_1 c1_1 l1_1 a2 r1 r2 w hr0_1 hc0_1 hr1_0 hc1_0 hr1_1 hc1_1 h
 cases k with
 | zero => exact absurd h (by simp [spec_l8Best.f])
 | succ k =>
 simp only [spec_l8Best.f] at h
 have hu29 := Try.underlying29
 have hu70 := Try.underlying70
 have HR0_1 := Aside0.mk hr0_1
 have HC0_1 := Aside0.mk hc0_1
 clear hr0_1 hc0_1
 have HR1_0 := Aside0.mk hr1_0
 have HC1_0 := Aside0.mk hc1_0
 clear hr1_0 hc1_0
 have HR1_1 := Aside0.mk hr1_1
 have HC1_1 := Aside0.mk hc1_1
 clear hr1_1 hc1_1
 have HB := Aside0.mk (Below.refl w.heap.size w)
 have H : ((spec_l8Next.f k a0_0 l0_1 l1_0 l1_1).bind fun t231 => (if (t231.length : Int) = 0 then (some ((([] : List (List Int))), wrap64 (a0_0 - (l1_0.length : Int)))) else ((spec_l8Free.f k a0_0 l0_1 l1_0 l1_1).bind fun t237 => ((spec_l1Least.f a2 (t237.length : Int)).bind fun t243 => ((spec_l8Choices.f k t237 t243).bind fun t244 => (spec_l8Best.l0 k a2 (([] : List (List Int))) (-1) t244 0 a0_0 l0_1 l1_0 l1_1)))))) = some (r1, r2) := h
 clear h
 replace H := Option.bind_eq_some_iff.mp H
 obtain ⟨t231, A40, H⟩ := H
 replace H : (if (t231.length : Int) = 0 then (some ((([] : List (List Int))), wrap64 (a0_0 - (l1_0.length : Int)))) else ((spec_l8Free.f k a0_0 l0_1 l1_0 l1_1).bind fun t237 => ((spec_l1Least.f a2 (t237.length : Int)).bind fun t243 => ((spec_l8Choices.f k t237 t243).bind fun t244 => (spec_l8Best.l0 k a2 (([] : List (List Int))) (-1) t244 0 a0_0 l0_1 l1_0 l1_1))))) = some (r1, r2) := H
 have A4 := Aside0.mk A40
 clear A40
 by_cases c5 : (t231.length : Int) = 0
 ·rw [if_pos c5] at H
  have c5b0 : ((t231.length : Int) == 0) = true := beq_iff_eq.mpr c5
  have c5b1 : ((t231.length : Int) != 0) = false := bne_eq_false_iff_eq.mpr c5
  clear c5
  obtain ⟨y234, hy234⟩ : ∃ y_ : List (List Int), y_ = (([] : List (List Int))) := ⟨_, rfl⟩
  replace H : (some (y234, wrap64 (a0_0 - (l1_0.length : Int)))) = some (r1, r2) := by first | (rw [hy234];with_reducible exact H) | (have H2_ := (Option.bind_some _ _).symm.trans H;rw [hy234];with_reducible exact H2_) | (have H2_ := (Option.bind_some _ _).symm.trans H;with_reducible exact H2_) | with_reducible exact H | (rw [hy234];exact H) | exact H
  have Ny234 := Aside0.mk hy234
  clear hy234
  simp only [Option.some.injEq, Prod.mk.injEq] at H
  obtain ⟨rfl, rfl⟩ := H
  go_enter Try.func50, Try.ntmps50
  try go_wp2_with (first | ((with_reducible refine gate_dst (N := 3) rfl ?_);refine box_event ?hg (N := 3) ?hd (cs := #[.int .i64 a0_0, .slice A0_1 l0_1.length c0_1]) (t := 29) ?hr ?_;(case hd => rfl);(case hg => rfl);(case hr => first | (go_simp;done) | (go_simp;rfl));intro gb229 hg w6 hbox hb;have n0_ := Aside0.mk (below_step (by exact bB) hb);have n1_ := Aside0.mk (hbox);have n2_ := Aside0.mk ((by rw [hg];exact (below_size (by exact bB)) : w.heap.size ≤ gb229));have n3_ := Aside0.mk ((by rw [hg];exact (below_size (by exact bB)) : w.heap.size ≤ gb229));clear HB;have HB := n0_;have BK229 := n1_;have GW229 := n2_;have GE229 := n3_;clear n0_ n1_ n2_ n3_;clear hb hbox hg) | ((with_reducible refine gate_dst (N := 4) rfl ?_);refine box_event ?hg (N := 4) ?hd (cs := #[.slice A1_0 l1_0.length c1_0, .slice A1_1 l1_1.length c1_1]) (t := 70) ?hr ?_;(case hd => rfl);(case hg => rfl);(case hr => first | (go_simp;done) | (go_simp;rfl));intro gb230 hg w7 hbox hb;have n0_ := Aside0.mk (blk_below (g := gb229) (o := .cells #[.int .i64 a0_0, .slice A0_1 l0_1.length c0_1] 29 (0, 0)) (by exact kP BK229.out) hb);have n1_ := Aside0.mk (below_step (by exact bB) hb);have n2_ := Aside0.mk (hbox);have n3_ := Aside0.mk ((by rw [hg];exact (below_size (by exact bB)) : w.heap.size ≤ gb230));have n4_ := Aside0.mk ((by rw [hg];exact (below_size (by exact bB)) : w.heap.size ≤ gb230));have n5_ := Aside0.mk ((by rw [hg];exact Nat.ne_of_lt (blk_lt (g := gb229) (o := .cells #[.int .i64 a0_0, .slice A0_1 l0_1.length c0_1] 29 (0, 0)) (by exact kP BK229.out)) : gb229 ≠ gb230));have n6_ := Aside0.mk ((by rw [hg];exact Nat.ne_of_gt (blk_lt (g := gb229) (o := .cells #[.int .i64 a0_0, .slice A0_1 l0_1.length c0_1] 29 (0, 0)) (by exact kP BK229.out)) : gb230 ≠ gb229));clear BK229;clear HB;have BK229 := n0_;have HB := n1_;have BK230 := n2_;have GW230 := n3_;have GE230 := n4_;have NB229_230 := n5_;have NB230_229 := n6_;clear n0_ n1_ n2_ n3_ n4_ n5_ n6_;clear hb hbox hg;have hnb8 := NB229_230.out;have hnc8 := NB230_229.out;have hcz9_0 : w7.cell? ⟨gb229, 0, none⟩ = some (.int .i64 a0_0) := (blk_cell BK229.out 0).trans rfl;have hcz9_1 : w7.cell? ⟨gb229, 1, none⟩ = some (.slice A0_1 l0_1.length c0_1) := (blk_cell BK229.out 1).trans rfl;have hfz9_0 := blk_frozen BK229.out 0;have hfz9_1 := blk_frozen BK229.out 1;have hcz10_0 : w7.cell? ⟨gb230, 0, none⟩ = some (.slice A1_0 l1_0.length c1_0) := (blk_cell BK230.out 0).trans rfl;have hcz10_1 : w7.cell? ⟨gb230, 1, none⟩ = some (.slice A1_1 l1_1.length c1_1) := (blk_cell BK230.out 1).trans rfl;have hfz10_0 := blk_frozen BK230.out 0;have hfz10_1 := blk_frozen BK230.out 1) | ((with_reducible refine gate_callee (f := 81) rfl ?_);refine goesL_ (some 17) rfl rfl Try.func81 (by kernel_rfl) rfl #[.agg #[.int .i64 a0_0, .slice A0_1 l0_1.length c0_1], .agg #[.slice A1_0 l1_0.length c1_0, .slice A1_1 l1_1.length c1_1]] rfl mM ?_;(with_reducible refine (spec_l8Next.calls k a0_0 _ _ l0_1 _ _ l1_0 _ _ l1_1 t231 _ ?side1 ?side2 ?side3 ?side4 ?side5 ?side6 A4.out).mono ?_);(case side1 => exact cP (Kd.C_below HR0_1.out HB.out));(case side2 => exact HC0_1.out);(case side3 => exact cP (Kd.C_below HR1_0.out HB.out));(case side4 => exact HC1_0.out);(case side5 => exact cP (Kd.C_below HR1_1.out HB.out));(case side6 => exact HC1_1.out);rintro e w11 ⟨v232, rfl, ho0, hb⟩;refine ⟨_, rfl, ?_⟩;have n0_ := Aside0.mk (Kd.R_lower (Kd.R_newM (M := fun k_ => (w.heap.size ≤ k_)) ho0 (below_size (by exact bB)) (fun k_ h_ => h_)) (below_size (by exact bB)));have n1_ := Aside0.mk (blk_below (g := gb229) (o := .cells #[.int .i64 a0_0, .slice A0_1 l0_1.length c0_1] 29 (0, 0)) (by exact kP BK229.out) hb);have n2_ := Aside0.mk (blk_below (g := gb230) (o := .cells #[.slice A1_0 l1_0.length c1_0, .slice A1_1 l1_1.length c1_1] 70 (0, 0)) (by exact kP BK230.out) hb);have n3_ := Aside0.mk (below_step (by exact bB) hb);clear BK229;clear BK230;clear HB;have HO233 := n0_;have BK229 := n1_;have BK230 := n2_;have HB := n3_;clear n0_ n1_ n2_ n3_;(try clear hb);(try clear hb2);(try clear hk);(try clear hi);(try clear ho0);obtain ⟨Ao12, co12, eo12⟩ := Kd.R_slice HO233.out;subst eo12))
  have n0_ := Aside0.mk (Kd.R_drew HO233.out)
  have n1_ := Aside0.mk (blk_drew BK229.out)
  have n2_ := Aside0.mk (blk_drew BK230.out)
  have n3_ := Aside0.mk (below_drew1 HB.out)
  clear HO233
  clear BK229
  clear BK230
  clear HB
  have HO233 := n0_
  have BK229 := n1_
  have BK230 := n2_
  have HB := n3_
  clear n0_ n1_ n2_ n3_
  refine start_ (n := 9) (S := fun w' => w'.cell? ⟨gb229, 0, none⟩ = some (.int .i64 a0_0) ∧ w'.cell? ⟨gb229, 1, none⟩ = some (.slice A0_1 l0_1.length c0_1) ∧ w'.cell? ⟨gb230, 0, none⟩ = some (.slice A1_0 l1_0.length c1_0) ∧ w'.cell? ⟨gb230, 1, none⟩ = some (.slice A1_1 l1_1.length c1_1)) (ds := []) #[false,false,false,false,false,false,false,false,false] (by kernel_rfl) rfl rfl ⟨(blk_cell BK229.out 0).trans rfl, (blk_cell BK229.out 1).trans rfl, (blk_cell BK230.out 0).trans rfl, (blk_cell BK230.out 1).trans rfl⟩ (fun hHeld => ?_);refine with_tabW spec_l8Best.tab2 spec_l8Best.bits2 (fun HT_ HW_ => ?_)
  generalize w11.drew = w13 at HO233 BK229 BK230 HB hHeld ⊢
  refine pure_ (i := 1) (N := some 21) (v := ?_) (a' := ?_) #[false,true,false,false,false,false,false,false,false] rfl rfl (any_of HT_.out (by kernel_rfl)) (fun _ _ _ h => h) (Or.inl ⟨by rfl, ?_⟩) ?_ ?_
  rotate_left
  ·intro w'
   go_simp
   with_reducible rfl
  rotate_left
  ·simp only [Act.put, List.setIfInBounds_toArray, List.set_cons_zero, List.set_cons_succ, i64_w, i32_w]
   rfl
  refine pure_ (i := 3) (N := some 23) (v := ?_) (a' := ?_) #[false,true,false,true,false,false,false,false,false] rfl rfl (any_of HT_.out (by kernel_rfl)) (fun _ _ _ h => h) (Or.inl ⟨by rfl, ?_⟩) ?_ ?_
  rotate_left
  ·intro w'
   go_simp
   with_reducible rfl
  rotate_left
  ·simp only [Act.put, List.setIfInBounds_toArray, List.set_cons_zero, List.set_cons_succ, i64_w, i32_w]
   rfl
  refine take_ (i := 2) (N := some 22) (v := ?_) (a' := ?_) #[false,true,true,true,false,false,false,false,false] rfl rfl (take_ofW HT_.out HW_.out (by kernel_rfl)) (fun _ _ _ h => h) (Or.inl ⟨by rfl, ?_⟩) hHeld ?_ ?_
  rotate_left
  ·rintro w' ⟨s0, s1, s2, s3⟩
   go_simp
   with_reducible rfl
  rotate_left
  ·simp only [Act.put, List.setIfInBounds_toArray, List.set_cons_zero, List.set_cons_succ, i64_w, i32_w]
   rfl
  refine take_ (i := 4) (N := some 24) (v := ?_) (a' := ?_) #[false,true,true,true,true,false,false,false,false] rfl rfl (take_ofW HT_.out HW_.out (by kernel_rfl)) (fun _ _ _ h => h) (Or.inl ⟨by rfl, ?_⟩) hHeld ?_ ?_
  rotate_left
  ·rintro w' ⟨s0, s1, s2, s3⟩
   go_simp
   with_reducible rfl
  rotate_left
  ·simp only [Act.put, List.setIfInBounds_toArray, List.set_cons_zero, List.set_cons_succ, i64_w, i32_w]
   rfl
  refine pure_ (i := 5) (N := some 25) (v := ?_) (a' := ?_) #[false,true,true,true,true,true,false,false,false] rfl rfl (any_of HT_.out (by kernel_rfl)) (fun _ _ _ h => h) (Or.inl ⟨by rfl, ?_⟩) ?_ ?_
  rotate_left
  ·intro w'
   go_simp
   with_reducible rfl
  rotate_left
  ·simp only [Act.put, List.setIfInBounds_toArray, List.set_cons_zero, List.set_cons_succ, i64_w, i32_w]
   rfl
  refine pure_ (i := 6) (N := some 26) (v := ?_) (a' := ?_) #[false,true,true,true,true,true,true,false,false] rfl rfl (any_of HT_.out (by kernel_rfl)) (fun _ _ _ h => h) (Or.inl ⟨by rfl, ?_⟩) ?_ ?_
  rotate_left
  ·intro w'
   go_simp
   with_reducible rfl
  rotate_left
  ·simp only [Act.put, List.setIfInBounds_toArray, List.set_cons_zero, List.set_cons_succ, i64_w, i32_w]
   rfl
  refine one_ (i := 0) (N := some 20) #[true,true,true,true,true,true,true,false,false] rfl rfl (one_of HT_.out (by kernel_rfl)) (by decide) (fun K hK => ?_)
  refine Kd.N_lit_step (Kd.slice 3 (Kd.int .i64)) _ 25 ?hg (N' := 20) ?hd (xs := ([] : List (List Int))) (inner := []) (ok := (fun k_ => (w.heap.size ≤ k_) ∧ some k_ ≠ (.slice Ao12 t231.length co12 : Value).ownBlock ∧ k_ ≠ gb229 ∧ k_ ≠ gb230)) (okp := (fun k_ => (w.heap.size ≤ k_) ∧ some k_ ≠ (.slice Ao12 t231.length co12 : Value).ownBlock ∧ k_ ≠ gb229 ∧ k_ ≠ gb230)) ?hr ?hp (fun _ hk => hk) ((show ∀ k_, w13.heap.size ≤ k_ → (fun k_ => (w.heap.size ≤ k_) ∧ some k_ ≠ (.slice Ao12 t231.length co12 : Value).ownBlock ∧ k_ ≠ gb229 ∧ k_ ≠ gb230) k_ from fun k_ hk => ⟨(Nat.le_trans (below_size (by exact bB)) hk), Kd.fresh' (Kd.R_lt (by exact rP HO233.out)) k_ hk, Kd.freshB (g := gb229) (o := .cells #[.int .i64 a0_0, .slice A0_1 l0_1.length c0_1] 29 (0, 0)) (by exact kP BK229.out) k_ hk, Kd.freshB (g := gb230) (o := .cells #[.slice A1_0 l1_0.length c1_0, .slice A1_1 l1_1.length c1_1] 70 (0, 0)) (by exact kP BK230.out) k_ hk⟩) _ (Nat.le_refl _)) (Below.refl _ _) (Nat.le_refl _) (by simp) ?_;(case hd => rfl);(case hg => rfl);(case hr => first | (go_simp;done) | (go_simp;rfl));(case hp => exact (Reps.none _ _))
  intro v235 w14 ho15 hb hg_ hnew_
  clear hg_ hnew_
  (first | rw [← Ny234.out] at ho15 | (simp only [Int.reduceToNat] at ho15;rw [← Ny234.out] at ho15))
  have n0_ := Aside0.mk (Kd.R_below (by exact rP HO233.out) hb)
  have n1_ := Aside0.mk (Kd.N_lower ho15 (below_size (by exact bB)))
  have n2_ := Aside0.mk (blk_below (g := gb229) (o := .cells #[.int .i64 a0_0, .slice A0_1 l0_1.length c0_1] 29 (0, 0)) (by exact kP BK229.out) hb)
  have n3_ := Aside0.mk (blk_below (g := gb230) (o := .cells #[.slice A1_0 l1_0.length c1_0, .slice A1_1 l1_1.length c1_1] 70 (0, 0)) (by exact kP BK230.out) hb)
  have n4_ := Aside0.mk (below_step (by exact bB) hb)
  clear HO233
  clear BK229
  clear BK230
  clear HB
  have HO233 := n0_
  have HO236 := n1_
  have BK229 := n2_
  have BK230 := n3_
  have HB := n4_
  clear n0_ n1_ n2_ n3_ n4_
  clear hb ho15
  refine hK.out _ _ ⟨(blk_cell BK229.out 0).trans rfl, (blk_cell BK229.out 1).trans rfl, (blk_cell BK230.out 0).trans rfl, (blk_cell BK230.out 1).trans rfl⟩ (fun hHeld => ?_)
  clear hK K
  refine norm_ (a' := ?_) ?_ ?_
  rotate_left
  ·show Act.put _ (some 20) _ = _
   simp only [Act.put, List.setIfInBounds_toArray, List.set_cons_zero, List.set_cons_succ, i64_w, i32_w]
   rfl
  refine pure_ (i := 7) (N := some 6) (v := ?_) (a' := ?_) #[true,true,true,true,true,true,true,true,false] rfl rfl (any_of HT_.out (by kernel_rfl)) (fun _ _ _ h => h) (Or.inl ⟨by rfl, ?_⟩) ?_ ?_
  rotate_left
  ·intro w'
   go_simp
   with_reducible rfl
  rotate_left
  ·simp only [Act.put, List.setIfInBounds_toArray, List.set_cons_zero, List.set_cons_succ, i64_w, i32_w]
   rfl
  refine pure_ (i := 8) (N := some 7) (v := ?_) (a' := ?_) #[true,true,true,true,true,true,true,true,true] rfl rfl (any_of HT_.out (by kernel_rfl)) (fun _ _ _ h => h) (Or.inl ⟨by rfl, ?_⟩) ?_ ?_
  rotate_left
  ·intro w'
   go_simp
   with_reducible rfl
  rotate_left
  ·simp only [Act.put, List.setIfInBounds_toArray, List.set_cons_zero, List.set_cons_succ, i64_w, i32_w]
   rfl
  refine done_ (done_of HT_.out (by kernel_rfl)) ?_
  try go_wp2
  go_ret2
  exact ⟨_, by first | rfl | (simp [errW_none, errW_some] <;> rfl) | (simp [*, errW_none, errW_some] <;> rfl), by (with_reducible repeat (first | apply Kd.N_alloc | apply Kd.N_drewN | apply Kd.N_drew));exact Kd.N_mono HO236.out (fun _ hk => hk.1), by exact bB⟩
 ·rw [if_neg c5] at H
  have c5b0 : ((t231.length : Int) == 0) = false := beq_eq_false_iff_ne.mpr c5
  have c5b1 : ((t231.length : Int) != 0) = true := bne_iff_ne.mpr c5
  have c5b2 : ¬ (t231 = []) := fun h_ => c5 (by rw [h_];rfl)
  replace H := Option.bind_eq_some_iff.mp H
  obtain ⟨t237, A160, H⟩ := H
  replace H : ((spec_l1Least.f a2 (t237.length : Int)).bind fun t243 => ((spec_l8Choices.f k t237 t243).bind fun t244 => (spec_l8Best.l0 k a2 (([] : List (List Int))) (-1) t244 0 a0_0 l0_1 l1_0 l1_1))) = some (r1, r2) := H
  have A16 := Aside0.mk A160
  clear A160
  obtain ⟨y240, hy240⟩ : ∃ y_ : List (List Int), y_ = (([] : List (List Int))) := ⟨_, rfl⟩
  replace H : ((spec_l1Least.f a2 (t237.length : Int)).bind fun t243 => ((spec_l8Choices.f k t237 t243).bind fun t244 => (spec_l8Best.l0 k a2 y240 (-1) t244 0 a0_0 l0_1 l1_0 l1_1))) = some (r1, r2) := by first | (rw [hy240];with_reducible exact H) | (have H2_ := (Option.bind_some _ _).symm.trans H;rw [hy240];with_reducible exact H2_) | (have H2_ := (Option.bind_some _ _).symm.trans H;with_reducible exact H2_) | with_reducible exact H | (rw [hy240];exact H) | exact H
  have Ny240 := Aside0.mk hy240
  clear hy240
  replace H := Option.bind_eq_some_iff.mp H
  obtain ⟨t243, A170, H⟩ := H
  replace H : ((spec_l8Choices.f k t237 t243).bind fun t244 => (spec_l8Best.l0 k a2 y240 (-1) t244 0 a0_0 l0_1 l1_0 l1_1)) = some (r1, r2) := H
  have A17 := Aside0.mk A170
  clear A170
  replace H := Option.bind_eq_some_iff.mp H
  obtain ⟨t244, A180, H⟩ := H
  replace H : (spec_l8Best.l0 k a2 y240 (-1) t244 0 a0_0 l0_1 l1_0 l1_1) = some (r1, r2) := H
  have A18 := Aside0.mk A180
  clear A180
  have H' := Aside0.mk H
  clear H
  go_enter Try.func50, Try.ntmps50
  go_wp2_with (first | ((with_reducible refine gate_dst (N := 3) rfl ?_);refine box_event ?hg (N := 3) ?hd (cs := #[.int .i64 a0_0, .slice A0_1 l0_1.length c0_1]) (t := 29) ?hr ?_;(case hd => rfl);(case hg => rfl);(case hr => first | (go_simp;done) | (go_simp;rfl));intro gb229 hg w19 hbox hb;have n0_ := Aside0.mk (below_step (by exact bB) hb);have n1_ := Aside0.mk (hbox);have n2_ := Aside0.mk ((by rw [hg];exact (below_size (by exact bB)) : w.heap.size ≤ gb229));have n3_ := Aside0.mk ((by rw [hg];exact (below_size (by exact bB)) : w.heap.size ≤ gb229));clear HB;have HB := n0_;have BK229 := n1_;have GW229 := n2_;have GE229 := n3_;clear n0_ n1_ n2_ n3_;clear hb hbox hg) | ((with_reducible refine gate_dst (N := 4) rfl ?_);refine box_event ?hg (N := 4) ?hd (cs := #[.slice A1_0 l1_0.length c1_0, .slice A1_1 l1_1.length c1_1]) (t := 70) ?hr ?_;(case hd => rfl);(case hg => rfl);(case hr => first | (go_simp;done) | (go_simp;rfl));intro gb230 hg w20 hbox hb;have n0_ := Aside0.mk (blk_below (g := gb229) (o := .cells #[.int .i64 a0_0, .slice A0_1 l0_1.length c0_1] 29 (0, 0)) (by exact kP BK229.out) hb);have n1_ := Aside0.mk (below_step (by exact bB) hb);have n2_ := Aside0.mk (hbox);have n3_ := Aside0.mk ((by rw [hg];exact (below_size (by exact bB)) : w.heap.size ≤ gb230));have n4_ := Aside0.mk ((by rw [hg];exact (below_size (by exact bB)) : w.heap.size ≤ gb230));have n5_ := Aside0.mk ((by rw [hg];exact Nat.ne_of_lt (blk_lt (g := gb229) (o := .cells #[.int .i64 a0_0, .slice A0_1 l0_1.length c0_1] 29 (0, 0)) (by exact kP BK229.out)) : gb229 ≠ gb230));have n6_ := Aside0.mk ((by rw [hg];exact Nat.ne_of_gt (blk_lt (g := gb229) (o := .cells #[.int .i64 a0_0, .slice A0_1 l0_1.length c0_1] 29 (0, 0)) (by exact kP BK229.out)) : gb230 ≠ gb229));clear BK229;clear HB;have BK229 := n0_;have HB := n1_;have BK230 := n2_;have GW230 := n3_;have GE230 := n4_;have NB229_230 := n5_;have NB230_229 := n6_;clear n0_ n1_ n2_ n3_ n4_ n5_ n6_;clear hb hbox hg;have hnb21 := NB229_230.out;have hnc21 := NB230_229.out;have hcz22_0 : w20.cell? ⟨gb229, 0, none⟩ = some (.int .i64 a0_0) := (blk_cell BK229.out 0).trans rfl;have hcz22_1 : w20.cell? ⟨gb229, 1, none⟩ = some (.slice A0_1 l0_1.length c0_1) := (blk_cell BK229.out 1).trans rfl;have hfz22_0 := blk_frozen BK229.out 0;have hfz22_1 := blk_frozen BK229.out 1;have hcz23_0 : w20.cell? ⟨gb230, 0, none⟩ = some (.slice A1_0 l1_0.length c1_0) := (blk_cell BK230.out 0).trans rfl;have hcz23_1 : w20.cell? ⟨gb230, 1, none⟩ = some (.slice A1_1 l1_1.length c1_1) := (blk_cell BK230.out 1).trans rfl;have hfz23_0 := blk_frozen BK230.out 0;have hfz23_1 := blk_frozen BK230.out 1) | ((with_reducible refine gate_callee (f := 81) rfl ?_);refine goesL_ (some 17) rfl rfl Try.func81 (by kernel_rfl) rfl #[.agg #[.int .i64 a0_0, .slice A0_1 l0_1.length c0_1], .agg #[.slice A1_0 l1_0.length c1_0, .slice A1_1 l1_1.length c1_1]] rfl mM ?_;(with_reducible refine (spec_l8Next.calls k a0_0 _ _ l0_1 _ _ l1_0 _ _ l1_1 t231 _ ?side1 ?side2 ?side3 ?side4 ?side5 ?side6 A4.out).mono ?_);(case side1 => exact cP (Kd.C_below HR0_1.out HB.out));(case side2 => exact HC0_1.out);(case side3 => exact cP (Kd.C_below HR1_0.out HB.out));(case side4 => exact HC1_0.out);(case side5 => exact cP (Kd.C_below HR1_1.out HB.out));(case side6 => exact HC1_1.out);rintro e w24 ⟨v232, rfl, ho0, hb⟩;refine ⟨_, rfl, ?_⟩;have n0_ := Aside0.mk (Kd.R_lower (Kd.R_newM (M := fun k_ => (w.heap.size ≤ k_)) ho0 (below_size (by exact bB)) (fun k_ h_ => h_)) (below_size (by exact bB)));have n1_ := Aside0.mk (blk_below (g := gb229) (o := .cells #[.int .i64 a0_0, .slice A0_1 l0_1.length c0_1] 29 (0, 0)) (by exact kP BK229.out) hb);have n2_ := Aside0.mk (blk_below (g := gb230) (o := .cells #[.slice A1_0 l1_0.length c1_0, .slice A1_1 l1_1.length c1_1] 70 (0, 0)) (by exact kP BK230.out) hb);have n3_ := Aside0.mk (below_step (by exact bB) hb);clear BK229;clear BK230;clear HB;have HO233 := n0_;have BK229 := n1_;have BK230 := n2_;have HB := n3_;clear n0_ n1_ n2_ n3_;(try clear hb);(try clear hb2);(try clear hk);(try clear hi);(try clear ho0);obtain ⟨Ao25, co25, eo25⟩ := Kd.R_slice HO233.out;subst eo25;have hcz26_0 : w24.cell? ⟨gb229, 0, none⟩ = some (.int .i64 a0_0) := (blk_cell BK229.out 0).trans rfl;have hcz26_1 : w24.cell? ⟨gb229, 1, none⟩ = some (.slice A0_1 l0_1.length c0_1) := (blk_cell BK229.out 1).trans rfl;have hfz26_0 := blk_frozen BK229.out 0;have hfz26_1 := blk_frozen BK229.out 1;have hcz27_0 : w24.cell? ⟨gb230, 0, none⟩ = some (.slice A1_0 l1_0.length c1_0) := (blk_cell BK230.out 0).trans rfl;have hcz27_1 : w24.cell? ⟨gb230, 1, none⟩ = some (.slice A1_1 l1_1.length c1_1) := (blk_cell BK230.out 1).trans rfl;have hfz27_0 := blk_frozen BK230.out 0;have hfz27_1 := blk_frozen BK230.out 1) | ((with_reducible refine gate_callee (f := 82) rfl ?_);refine goesL_ (some 29) rfl rfl Try.func82 (by kernel_rfl) rfl #[.agg #[.int .i64 a0_0, .slice A0_1 l0_1.length c0_1], .agg #[.slice A1_0 l1_0.length c1_0, .slice A1_1 l1_1.length c1_1]] rfl mM ?_;(with_reducible refine (spec_l8Free.calls k a0_0 _ _ l0_1 _ _ l1_0 _ _ l1_1 t237 _ ?side1 ?side2 ?side3 ?side4 ?side5 ?side6 A16.out).mono ?_);(case side1 => exact cP (Kd.C_below HR0_1.out HB.out));(case side2 => exact HC0_1.out);(case side3 => exact cP (Kd.C_below HR1_0.out HB.out));(case side4 => exact HC1_0.out);(case side5 => exact cP (Kd.C_below HR1_1.out HB.out));(case side6 => exact HC1_1.out);rintro e w28 ⟨v238, rfl, ho0, hb⟩;refine ⟨_, rfl, ?_⟩;have n0_ := Aside0.mk (Kd.R_elder' (by exact rP HO233.out) (Kd.R_base ho0) hb);have n1_ := Aside0.mk (Kd.R_lower (Kd.R_new' (Kd.R_newM (M := fun k_ => (w.heap.size ≤ k_)) ho0 (below_size (by exact bB)) (fun k_ h_ => h_)) (Kd.R_lt (by exact rP HO233.out))) (below_size (by exact bB)));have n2_ := Aside0.mk (blk_below (g := gb229) (o := .cells #[.int .i64 a0_0, .slice A0_1 l0_1.length c0_1] 29 (0, 0)) (by exact kP BK229.out) hb);have n3_ := Aside0.mk (blk_below (g := gb230) (o := .cells #[.slice A1_0 l1_0.length c1_0, .slice A1_1 l1_1.length c1_1] 70 (0, 0)) (by exact kP BK230.out) hb);have n4_ := Aside0.mk (below_step (by exact bB) hb);clear HO233;clear BK229;clear BK230;clear HB;have HO233 := n0_;have HO239 := n1_;have BK229 := n2_;have BK230 := n3_;have HB := n4_;clear n0_ n1_ n2_ n3_ n4_;(try clear hb);(try clear hb2);(try clear hk);(try clear hi);(try clear ho0)) | ((with_reducible refine gate_dst (N := 30) rfl ?_);refine Kd.N_lit (Kd.slice 3 (Kd.int .i64)) _ 25 ?hg (N' := 30) ?hd (xs := ([] : List (List Int))) (inner := []) (ok := (fun k_ => (w.heap.size ≤ k_) ∧ some k_ ≠ (.slice Ao25 t231.length co25 : Value).ownBlock ∧ some k_ ≠ (v238 : Value).ownBlock ∧ k_ ≠ gb229 ∧ k_ ≠ gb230)) (okp := (fun k_ => (w.heap.size ≤ k_) ∧ some k_ ≠ (.slice Ao25 t231.length co25 : Value).ownBlock ∧ some k_ ≠ (v238 : Value).ownBlock ∧ k_ ≠ gb229 ∧ k_ ≠ gb230)) ?hr ?hp (fun _ hk => hk) ((show ∀ k_, w28.heap.size ≤ k_ → (fun k_ => (w.heap.size ≤ k_) ∧ some k_ ≠ (.slice Ao25 t231.length co25 : Value).ownBlock ∧ some k_ ≠ (v238 : Value).ownBlock ∧ k_ ≠ gb229 ∧ k_ ≠ gb230) k_ from fun k_ hk => ⟨(Nat.le_trans (below_size (by exact bB)) hk), Kd.fresh' (Kd.R_lt (by exact rP HO233.out)) k_ hk, Kd.fresh' (Kd.R_lt (by exact rP HO239.out)) k_ hk, Kd.freshB (g := gb229) (o := .cells #[.int .i64 a0_0, .slice A0_1 l0_1.length c0_1] 29 (0, 0)) (by exact kP BK229.out) k_ hk, Kd.freshB (g := gb230) (o := .cells #[.slice A1_0 l1_0.length c1_0, .slice A1_1 l1_1.length c1_1] 70 (0, 0)) (by exact kP BK230.out) k_ hk⟩) _ (Nat.le_refl _)) (Below.refl _ _) (Nat.le_refl _) (by simp) ?_;(case hd => rfl);(case hg => rfl);(case hr => first | (go_simp;done) | (go_simp;rfl));(case hp => exact (Reps.none _ _));intro v241 w29 ho30 hb hg_ hnew_;clear hg_ hnew_;(first | rw [← Ny240.out] at ho30 | (simp only [Int.reduceToNat] at ho30;rw [← Ny240.out] at ho30));have n0_ := Aside0.mk (Kd.R_below (by exact rP HO233.out) hb);have n1_ := Aside0.mk (Kd.R_below (by exact rP HO239.out) hb);have n2_ := Aside0.mk (Kd.N_lower ho30 (below_size (by exact bB)));have n3_ := Aside0.mk (blk_below (g := gb229) (o := .cells #[.int .i64 a0_0, .slice A0_1 l0_1.length c0_1] 29 (0, 0)) (by exact kP BK229.out) hb);have n4_ := Aside0.mk (blk_below (g := gb230) (o := .cells #[.slice A1_0 l1_0.length c1_0, .slice A1_1 l1_1.length c1_1] 70 (0, 0)) (by exact kP BK230.out) hb);have n5_ := Aside0.mk (below_step (by exact bB) hb);clear HO233;clear HO239;clear BK229;clear BK230;clear HB;have HO233 := n0_;have HO239 := n1_;have HO242 := n2_;have BK229 := n3_;have BK230 := n4_;have HB := n5_;clear n0_ n1_ n2_ n3_ n4_ n5_;clear hb ho30;obtain ⟨Ao31, co31, eo31⟩ := Kd.R_slice HO239.out;subst eo31) | ((with_reducible refine gate_callee (f := 84) rfl ?_);refine goesL_ (some 35) rfl rfl Try.func84 (by kernel_rfl) rfl #[.int .i64 a2, .int .i64 (t237.length : Int)] rfl mM ?_;(with_reducible refine (spec_l1Least.calls a2 (t237.length : Int) t243 _ A17.out).mono ?_);rintro e w' ⟨rfl, ⟨nd, rfl⟩⟩;refine ⟨_, rfl, ?_⟩) | ((with_reducible refine gate_callee (f := 83) rfl ?_);refine goesL_ (some 36) rfl rfl Try.func83 (by kernel_rfl) rfl #[.slice Ao31 t237.length co31, .int .i64 t243] rfl mM ?_;(with_reducible refine (spec_l8Choices.calls k _ _ t237 t243 t244 _ ?side1 ?side2 A18.out).mono ?_);(case side1 => exact cP (Kd.R_reads' HO239.out).2.2);(case side2 => exact (Kd.R_reads' HO239.out).2.1);rintro e w32 ⟨v245, rfl, ho0, hb⟩;refine ⟨_, rfl, ?_⟩;have n0_ := Aside0.mk (Kd.R_below (by exact rP HO233.out) hb);have n1_ := Aside0.mk (Kd.R_below (by exact rP HO239.out) hb);have n2_ := Aside0.mk (Kd.N_elder' (by (with_reducible repeat (first | apply Kd.N_alloc | apply Kd.N_drewN | apply Kd.N_drew));exact HO242.out) (Kd.N_base ho0) hb);have n3_ := Aside0.mk (Kd.N_lower (Kd.N_mono (ok' := fun k_ => (w.heap.size ≤ k_) ∧ some k_ ≠ (.slice Ao25 t231.length co25 : Value).ownBlock ∧ some k_ ≠ (.slice Ao31 t237.length co31 : Value).ownBlock ∧ some k_ ≠ (v241 : Value).ownBlock ∧ k_ ≠ gb229 ∧ k_ ≠ gb230) ho0 (fun k_ hk_ => ⟨(Nat.le_trans (below_size (by exact bB)) hk_), (Kd.fresh' (Kd.R_lt (by exact rP HO233.out)) k_ hk_), (Kd.fresh' (Kd.R_lt (by exact rP HO239.out)) k_ hk_), (Kd.fresh' (Kd.N_lt (by (with_reducible repeat (first | apply Kd.N_alloc | apply Kd.N_drewN | apply Kd.N_drew));exact HO242.out)) k_ hk_), (Kd.freshB (g := gb229) (o := .cells #[.int .i64 a0_0, .slice A0_1 l0_1.length c0_1] 29 (0, 0)) (by exact kP BK229.out) k_ hk_), (Kd.freshB (g := gb230) (o := .cells #[.slice A1_0 l1_0.length c1_0, .slice A1_1 l1_1.length c1_1] 70 (0, 0)) (by exact kP BK230.out) k_ hk_)⟩)) (below_size (by exact bB)));have n4_ := Aside0.mk (blk_below (g := gb229) (o := .cells #[.int .i64 a0_0, .slice A0_1 l0_1.length c0_1] 29 (0, 0)) (by exact kP BK229.out) hb);have n5_ := Aside0.mk (blk_below (g := gb230) (o := .cells #[.slice A1_0 l1_0.length c1_0, .slice A1_1 l1_1.length c1_1] 70 (0, 0)) (by exact kP BK230.out) hb);have n6_ := Aside0.mk (below_step (by exact bB) hb);clear HO233;clear HO239;clear HO242;clear BK229;clear BK230;clear HB;have HO233 := n0_;have HO239 := n1_;have HO242 := n2_;have HO246 := n3_;have BK229 := n4_;have BK230 := n5_;have HB := n6_;clear n0_ n1_ n2_ n3_ n4_ n5_ n6_;(try clear hb);(try clear hb2);(try clear hk);(try clear hi);(try clear ho0)))
  go_loopg [9, 10, 12] k (fun kq v9 v10 v12 w' => ∃ (x9_1 : List (List Int)) (x10_1 : Int) (x12_1 : Int), v10 = .int .i64 x10_1 ∧ v12 = .int .i64 x12_1 ∧ Aside0 (spec_l8Best.l0 kq a2 x9_1 x10_1 t244 x12_1 a0_0 l0_1 l1_0 l1_1 = some (r1, r2)) ∧ Aside0 (kq ≤ k) ∧ Aside0 (Kd.N (Kd.slice 3 (Kd.int .i64)) 25 w' w.heap.size (fun k_ => (w.heap.size ≤ k_) ∧ some k_ ≠ (v245 : Value).ownBlock ∧ k_ ≠ gb229 ∧ k_ ≠ gb230) v9 x9_1) ∧ Aside0 (Kd.N (Kd.slice 3 (Kd.int .i64)) 25 w' w.heap.size (fun k_ => (w.heap.size ≤ k_) ∧ some k_ ≠ (v9 : Value).ownBlock ∧ k_ ≠ gb229 ∧ k_ ≠ gb230) v245 t244) ∧ Aside0 (w'.heap[gb229]? = some (.cells #[.int .i64 a0_0, (.slice A0_1 l0_1.length c0_1)] 29 (0, 0))) ∧ Aside0 (w'.heap[gb230]? = some (.cells #[(.slice A1_0 l1_0.length c1_0), (.slice A1_1 l1_1.length c1_1)] 70 (0, 0))) ∧ Aside0 (Below w.heap.size w w'))
  case atStart => exact ⟨(y240), ((-1)), (0), (by first | rfl | (simp;done) | (simp [*];done)), (by first | rfl | (simp;done) | (simp [*];done)), H', ⟨Nat.le_refl _⟩, ⟨by (with_reducible repeat (first | apply Kd.N_alloc | apply Kd.N_drewN | apply Kd.N_drew));exact Kd.N_mono HO242.out (fun _ hk => ⟨hk.1.1, ⟨hk.2, ⟨hk.1.2.2.2.1, hk.1.2.2.2.2⟩⟩⟩)⟩, ⟨by (with_reducible repeat (first | apply Kd.N_alloc | apply Kd.N_drewN | apply Kd.N_drew));exact Kd.N_mono HO246.out (fun _ hk => ⟨hk.1, ⟨hk.2.2.2.1, ⟨hk.2.2.2.2.1, hk.2.2.2.2.2⟩⟩⟩)⟩, ⟨by exact kP BK229.out⟩, ⟨by exact kP BK230.out⟩, ⟨by exact bB⟩⟩
  case round =>
   clear H'
   try clear c1
   try clear c2
   try clear p2
   try clear c5
   try clear c5b0
   try clear c5b1
   try clear c5b2
   try clear p6
   try clear c8
   try clear c21
   try clear hcz10_0
   try clear hcz10_1
   try clear hcz22_0
   try clear hcz22_1
   try clear hcz23_0
   try clear hcz23_1
   try clear hcz26_0
   try clear hcz26_1
   try clear hcz27_0
   try clear hcz27_1
   try clear hcz9_0
   try clear hcz9_1
   try clear hfz10_0
   try clear hfz10_1
   try clear hfz22_0
   try clear hfz22_1
   try clear hfz23_0
   try clear hfz23_1
   try clear hfz26_0
   try clear hfz26_1
   try clear hfz27_0
   try clear hfz27_1
   try clear hfz9_0
   try clear hfz9_1
   obtain ⟨x9_1, x10_1, x12_1, rfl, rfl, HA, HK1, HO_9, HO_11, BK229, BK230, HB⟩ := hrel
   cases gk with
   | zero => exact absurd HA.out (by simp [spec_l8Best.l0])
   | succ k1 =>
    have H := HA.out
    clear HA
    simp only [spec_l8Best.l0] at H
    by_cases c33 : x12_1 < (t244.length : Int)
    ·rw [if_pos c33] at H
     have c33b0 : decide (x12_1 < (t244.length : Int)) = true := decide_eq_true c33
     clear c33
     by_cases c34 : 0 ≤ x12_1
     ·rw [if_pos c34] at H
      have c34b0 : decide (0 ≤ x12_1) = true := decide_eq_true c34
      clear c34
      replace H := Option.bind_eq_some_iff.mp H
      obtain ⟨⟨t248, t251⟩, A350, H⟩ := H
      replace H : ((spec_l8Best.f k1 a0_0 l0_1 t248 t251 a2).bind fun bt254 => (if bt254.2 > x10_1 then ((some (([rd_L2 t244 x12_1] : List (List Int)) : List (List Int))).bind fun y259 => (if y259.length + bt254.1.length < 5864062014805 then (spec_l8Best.l0 k1 a2 (y259 ++ bt254.1) bt254.2 t244 (wrap64 (x12_1 + 1)) a0_0 l0_1 l1_0 l1_1) else (none))) else (spec_l8Best.l0 k1 a2 x9_1 x10_1 t244 (wrap64 (x12_1 + 1)) a0_0 l0_1 l1_0 l1_1))) = some (r1, r2) := H
      have A35 := Aside0.mk A350
      clear A350
      replace H := Option.bind_eq_some_iff.mp H
      obtain ⟨⟨t254, t257⟩, A360, H⟩ := H
      replace H : (if t257 > x10_1 then ((some (([rd_L2 t244 x12_1] : List (List Int)) : List (List Int))).bind fun y259 => (if y259.length + t254.length < 5864062014805 then (spec_l8Best.l0 k1 a2 (y259 ++ t254) t257 t244 (wrap64 (x12_1 + 1)) a0_0 l0_1 l1_0 l1_1) else (none))) else (spec_l8Best.l0 k1 a2 x9_1 x10_1 t244 (wrap64 (x12_1 + 1)) a0_0 l0_1 l1_0 l1_1)) = some (r1, r2) := H
      have A36 := Aside0.mk A360
      clear A360
      by_cases c37 : t257 > x10_1
      ·rw [if_pos c37] at H
       have c37b0 : decide (x10_1 < t257) = true := decide_eq_true c37
       clear c37
       obtain ⟨y259, hy259⟩ : ∃ y_ : List (List Int), y_ = (([rd_L2 t244 x12_1] : List (List Int))) := ⟨_, rfl⟩
       replace H : (if y259.length + t254.length < 5864062014805 then (spec_l8Best.l0 k1 a2 (y259 ++ t254) t257 t244 (wrap64 (x12_1 + 1)) a0_0 l0_1 l1_0 l1_1) else (none)) = some (r1, r2) := by first | (rw [hy259];with_reducible exact H) | (have H2_ := (Option.bind_some _ _).symm.trans H;rw [hy259];with_reducible exact H2_) | (have H2_ := (Option.bind_some _ _).symm.trans H;with_reducible exact H2_) | with_reducible exact H | (rw [hy259];exact H) | exact H
       have Ny259 := Aside0.mk hy259
       clear hy259
       by_cases c38 : y259.length + t254.length < 5864062014805
       ·rw [if_pos c38] at H
        have LMc38 := Aside0.mk c38
        clear c38
        obtain ⟨y262, hy262⟩ : ∃ y_ : List (List Int), y_ = (y259 ++ t254) := ⟨_, rfl⟩
        replace H : (spec_l8Best.l0 k1 a2 y262 t257 t244 (wrap64 (x12_1 + 1)) a0_0 l0_1 l1_0 l1_1) = some (r1, r2) := by first | (rw [hy262];with_reducible exact H) | (have H2_ := (Option.bind_some _ _).symm.trans H;rw [hy262];with_reducible exact H2_) | (have H2_ := (Option.bind_some _ _).symm.trans H;with_reducible exact H2_) | with_reducible exact H | (rw [hy262];exact H) | exact H
        have Ny262 := Aside0.mk hy262
        clear hy262
        have H' := Aside0.mk H
        clear H
        obtain ⟨Ao39, co39, eo39⟩ := Kd.N_slice HO_11.out
        subst eo39
        try go_wp2
        have n0_ := Aside0.mk (Kd.N_drew HO_9.out)
        have n1_ := Aside0.mk (Kd.N_drew HO_11.out)
        have n2_ := Aside0.mk (blk_drew BK229.out)
        have n3_ := Aside0.mk (blk_drew BK230.out)
        have n4_ := Aside0.mk (below_drew1 HB.out)
        clear HO_9
        clear HO_11
        clear BK229
        clear BK230
        clear HB
        have HO_9 := n0_
        have HO_11 := n1_
        have BK229 := n2_
        have BK230 := n3_
        have HB := n4_
        clear n0_ n1_ n2_ n3_ n4_
        have p247 : 0 ≤ (x12_1 : Int) := oA
        have q247 : x12_1 < (t244.length : Int) := oA
        obtain ⟨ad247, A247_0, c247_0, e247, hx247_0, hl247_0, hi247_0⟩ := at_L2 (Kd.N_reads' HO_11.out).2.2 x12_1 p247 q247
        cases e247
        obtain ⟨ce247, hce247, hMe247, hcc247⟩ := Kd.N_get HO_11.out [] x12_1 p247 (by first | exact q247 | exact oA | (have e_ := (Kd.N_reads' HO_11.out).1;omega))
        obtain ⟨ua247_0, uc247_0, rfl, ul247_0, ge247_0⟩ := Kd.FK_slice_open hMe247
        have hv247_0 := hcc247 0 _ rfl
        rw [Nat.add_zero, show ((Kd.slice 3 (Kd.int .i64))).sz = 1 from rfl, Nat.mul_one] at hv247_0
        replace hv247_0 := Option.some.inj (hv247_0.symm.trans hx247_0)
        injection hv247_0 with hva_ hvn_ hvc_
        rw [hva_] at ge247_0
        rw [hvc_] at ul247_0
        have HL247_0 := Aside0.mk (show Kd.V (Kd.int .i64) 3 _ w.heap.size _ _ (rd_L2 t244 x12_1) from Kd.V_mk ul247_0 ge247_0)
        clear hva_ hvn_ hvc_ ge247_0 ul247_0
        clear hcc247 hce247
        have HR247_0 := Aside0.mk hi247_0
        have HC247_0 := Aside0.mk hl247_0
        clear hi247_0 hl247_0
        replace p247 := eq_true p247
        replace q247 := eq_true q247
        refine start_ (n := 15) (S := fun w' => w'.cell? ⟨gb229, 0, none⟩ = some (.int .i64 a0_0) ∧ w'.cell? ⟨gb229, 1, none⟩ = some (.slice A0_1 l0_1.length c0_1) ∧ w'.cell? ⟨gb230, 0, none⟩ = some (.slice A1_0 l1_0.length c1_0) ∧ w'.cell? ⟨gb230, 1, none⟩ = some (.slice A1_1 l1_1.length c1_1) ∧ w'.cell? (ad247.add (x12_1).toNat) = some (.slice A247_0 (rd_L2 t244 x12_1).length c247_0)) (ds := []) #[false,false,false,false,false,false,false,false,false,false,false,false,false,false,false] (by kernel_rfl) rfl rfl ⟨(blk_cell BK229.out 0).trans rfl, (blk_cell BK229.out 1).trans rfl, (blk_cell BK230.out 0).trans rfl, (blk_cell BK230.out 1).trans rfl, hx247_0⟩ (fun hHeld => ?_);refine with_tabW spec_l8Best.tab8 spec_l8Best.bits8 (fun HT_ HW_ => ?_)
        generalize wr.drew = w40 at HO_9 HO_11 BK229 BK230 HB HL247_0 HR247_0 hx247_0 hHeld ⊢
        refine pure_ (i := 3) (N := some 47) (v := ?_) (a' := ?_) #[false,false,false,true,false,false,false,false,false,false,false,false,false,false,false] rfl rfl (any_of HT_.out (by kernel_rfl)) (fun _ _ _ h => h) (Or.inl ⟨by rfl, ?_⟩) ?_ ?_
        rotate_left
        ·intro w'
         go_simp
         with_reducible rfl
        rotate_left
        ·simp only [Act.put, List.setIfInBounds_toArray, List.set_cons_zero, List.set_cons_succ, i64_w, i32_w]
         rfl
        refine pure_ (i := 4) (N := some 48) (v := ?_) (a' := ?_) #[false,false,false,true,true,false,false,false,false,false,false,false,false,false,false] rfl rfl (any_of HT_.out (by kernel_rfl)) (fun _ _ _ h => h) (Or.inl ⟨by rfl, ?_⟩) ?_ ?_
        rotate_left
        ·intro w'
         go_simp
         with_reducible rfl
        rotate_left
        ·simp only [Act.put, List.setIfInBounds_toArray, List.set_cons_zero, List.set_cons_succ, i64_w, i32_w]
         rfl
        refine pure_ (i := 5) (N := some 49) (v := ?_) (a' := ?_) #[false,false,false,true,true,true,false,false,false,false,false,false,false,false,false] rfl rfl (any_of HT_.out (by kernel_rfl)) (fun _ _ _ h => h) (Or.inl ⟨by rfl, ?_⟩) ?_ ?_
        rotate_left
        ·intro w'
         go_simp
         with_reducible rfl
        rotate_left
        ·simp only [Act.put, List.setIfInBounds_toArray, List.set_cons_zero, List.set_cons_succ, i64_w, i32_w]
         rfl
        refine pure_ (i := 8) (N := some 52) (v := ?_) (a' := ?_) #[false,false,false,true,true,true,false,false,true,false,false,false,false,false,false] rfl rfl (any_of HT_.out (by kernel_rfl)) (fun _ _ _ h => h) (Or.inl ⟨by rfl, ?_⟩) ?_ ?_
        rotate_left
        ·intro w'
         go_simp
         with_reducible rfl
        rotate_left
        ·simp only [Act.put, List.setIfInBounds_toArray, List.set_cons_zero, List.set_cons_succ, i64_w, i32_w]
         rfl
        refine take_ (i := 0) (N := some 44) (v := ?_) (a' := ?_) #[true,false,false,true,true,true,false,false,true,false,false,false,false,false,false] rfl rfl (take_ofW HT_.out HW_.out (by kernel_rfl)) (fun _ _ _ h => h) (Or.inl ⟨by rfl, ?_⟩) hHeld ?_ ?_
        rotate_left
        ·rintro w' ⟨s0, s1, s2, s3, s4⟩
         go_simp
         with_reducible rfl
        rotate_left
        ·simp only [Act.put, List.setIfInBounds_toArray, List.set_cons_zero, List.set_cons_succ, i64_w, i32_w]
         rfl
        refine take_ (i := 1) (N := some 45) (v := ?_) (a' := ?_) #[true,true,false,true,true,true,false,false,true,false,false,false,false,false,false] rfl rfl (take_ofW HT_.out HW_.out (by kernel_rfl)) (fun _ _ _ h => h) (Or.inl ⟨by rfl, ?_⟩) hHeld ?_ ?_
        rotate_left
        ·rintro w' ⟨s0, s1, s2, s3, s4⟩
         go_simp
         with_reducible rfl
        rotate_left
        ·simp only [Act.put, List.setIfInBounds_toArray, List.set_cons_zero, List.set_cons_succ, i64_w, i32_w]
         rfl
        refine take_ (i := 2) (N := some 46) (v := ?_) (a' := ?_) #[true,true,true,true,true,true,false,false,true,false,false,false,false,false,false] rfl rfl (take_ofW HT_.out HW_.out (by kernel_rfl)) (fun _ _ _ h => h) (Or.inl ⟨by rfl, ?_⟩) hHeld ?_ ?_
        rotate_left
        ·rintro w' ⟨s0, s1, s2, s3, s4⟩
         go_simp
         with_reducible rfl
        rotate_left
        ·simp only [Act.put, List.setIfInBounds_toArray, List.set_cons_zero, List.set_cons_succ, i64_w, i32_w]
         rfl
        refine take_ (i := 6) (N := some 50) (v := ?_) (a' := ?_) #[true,true,true,true,true,true,true,false,true,false,false,false,false,false,false] rfl rfl (take_ofW HT_.out HW_.out (by kernel_rfl)) (fun _ _ _ h => h) (Or.inl ⟨by rfl, ?_⟩) hHeld ?_ ?_
        rotate_left
        ·rintro w' ⟨s0, s1, s2, s3, s4⟩
         go_simp
         with_reducible rfl
        rotate_left
        ·simp only [Act.put, List.setIfInBounds_toArray, List.set_cons_zero, List.set_cons_succ, i64_w, i32_w]
         rfl
        refine one_ (i := 7) (N := some 51) #[true,true,true,true,true,true,true,true,true,false,false,false,false,false,false] rfl rfl (one_of HT_.out (by kernel_rfl)) (by decide) (fun K hK => ?_)
        refine goes_ Try.func85 (by kernel_rfl) rfl #[.agg #[.int .i64 a0_0, .slice A0_1 l0_1.length c0_1], .agg #[.slice A1_0 l1_0.length c1_0, .slice A1_1 l1_1.length c1_1], .slice A247_0 (rd_L2 t244 x12_1).length c247_0] (by rfl) rfl rfl mM ?_
        with_reducible refine (spec_l8Round.calls k1 a0_0 _ _ l0_1 _ _ l1_0 _ _ l1_1 _ _ (rd_L2 t244 x12_1) t248 t251 _ ?side1 ?side2 ?side3 ?side4 ?side5 ?side6 ?side7 ?side8 A35.out).mono ?_
        (case side1 => exact cP (Kd.C_below HR0_1.out HB.out))
        (case side2 => exact HC0_1.out)
        (case side3 => exact cP (Kd.C_below HR1_0.out HB.out))
        (case side4 => exact HC1_0.out)
        (case side5 => exact cP (Kd.C_below HR1_1.out HB.out))
        (case side6 => exact HC1_1.out)
        (case side7 => exact cP (by repeat (first | (with_reducible exact HR247_0.out) | (with_reducible refine Kd.C_alloc ?_ _) | (with_reducible refine Kd.C_drewN ?_ _) | (with_reducible refine Kd.C_drew ?_) | exact HR247_0.out)))
        (case side8 => exact HC247_0.out)
        rintro e w41 ⟨v249, v252, rfl, ho0, ho1, hb⟩
        have HS4_ := (hb.cell (World.block_lt_of_cell? _ _ (hHeld.2.2.2.2))).trans (hHeld.2.2.2.2)
        refine ⟨_, rfl, ?_⟩
        have n0_ := Aside0.mk (Kd.N_mono (Kd.N_told (Kd.N_told (Kd.N_old (by (with_reducible repeat (first | apply Kd.N_alloc | apply Kd.N_drewN | apply Kd.N_drew));exact HO_9.out) hb) (Kd.R_base ho0)) (Kd.R_base ho1)) (fun _ h_ => h_.1))
        have n1_ := Aside0.mk (Kd.N_mono (Kd.N_told (Kd.N_told (Kd.N_old (by (with_reducible repeat (first | apply Kd.N_alloc | apply Kd.N_drewN | apply Kd.N_drew));exact HO_11.out) hb) (Kd.R_base ho0)) (Kd.R_base ho1)) (fun _ h_ => h_.1))
        have n2_ := Aside0.mk (Kd.V_mono (Kd.V_told (Kd.V_told (Kd.V_old (by (with_reducible repeat (first | apply Kd.V_alloc | apply Kd.V_drewN | apply Kd.V_drew));exact HL247_0.out) hb) (Kd.R_base ho0)) (Kd.R_base ho1)) (fun _ h_ => h_.1))
        have n3_ := Aside0.mk (Kd.R_lower (Kd.R_newM (M := fun k_ => (w.heap.size ≤ k_)) ho0 (below_size (by exact bB)) (fun k_ h_ => h_)) (below_size (by exact bB)))
        have n4_ := Aside0.mk (Kd.R_lower (Kd.R_newM (M := fun k_ => (w.heap.size ≤ k_)) ho1 (below_size (by exact bB)) (fun k_ h_ => h_)) (below_size (by exact bB)))
        have n5_ := Aside0.mk (blk_below (g := gb229) (o := .cells #[.int .i64 a0_0, .slice A0_1 l0_1.length c0_1] 29 (0, 0)) (by exact kP BK229.out) hb)
        have n6_ := Aside0.mk (blk_below (g := gb230) (o := .cells #[.slice A1_0 l1_0.length c1_0, .slice A1_1 l1_1.length c1_1] 70 (0, 0)) (by exact kP BK230.out) hb)
        have n7_ := Aside0.mk (Kd.C_below (by repeat (first | (with_reducible exact HR247_0.out) | (with_reducible refine Kd.C_alloc ?_ _) | (with_reducible refine Kd.C_drewN ?_ _) | (with_reducible refine Kd.C_drew ?_) | exact HR247_0.out)) hb)
        have n8_ := Aside0.mk (below_step (by exact bB) hb)
        clear HO_9
        clear HO_11
        clear HL247_0
        clear BK229
        clear BK230
        clear HR247_0
        clear HB
        have HO_9 := n0_
        have HO_11 := n1_
        have HL247_0 := n2_
        have HO250 := n3_
        have HO253 := n4_
        have BK229 := n5_
        have BK230 := n6_
        have HR247_0 := n7_
        have HB := n8_
        clear n0_ n1_ n2_ n3_ n4_ n5_ n6_ n7_ n8_
        (try clear hb)
        (try clear hb2)
        (try clear hk)
        (try clear hi)
        (try clear ho0)
        (try clear ho1)
        obtain ⟨Ao42, co42, eo42⟩ := Kd.R_slice HO250.out
        (first | subst eo42 | (injection eo42 with f1_ f2_ f3_;have f4_ := f1_.symm;have f5_ := f3_.symm;clear f1_ f2_ f3_;subst f4_;subst f5_))
        obtain ⟨Ao43, co43, eo43⟩ := Kd.R_slice HO253.out
        (first | subst eo43 | (injection eo43 with f1_ f2_ f3_;have f4_ := f1_.symm;have f5_ := f3_.symm;clear f1_ f2_ f3_;subst f4_;subst f5_))
        refine hK.out _ _ ⟨(blk_cell BK229.out 0).trans rfl, (blk_cell BK229.out 1).trans rfl, (blk_cell BK230.out 0).trans rfl, (blk_cell BK230.out 1).trans rfl, HS4_⟩ (fun hHeld => ?_)
        clear hK K
        refine norm_ (a' := ?_) ?_ ?_
        rotate_left
        ·show Act.put _ (some 51) _ = _
         simp only [Act.put, List.setIfInBounds_toArray, List.set_cons_zero, List.set_cons_succ, i64_w, i32_w]
         rfl
        refine one_ (i := 9) (N := some 53) #[true,true,true,true,true,true,true,true,true,true,false,false,false,false,false] rfl rfl (one_of HT_.out (by kernel_rfl)) (by decide) (fun K hK => ?_)
        refine goes_ Try.func50 (by kernel_rfl) rfl #[.agg #[.int .i64 a0_0, .slice A0_1 l0_1.length c0_1], .agg #[.slice Ao42 t248.length co42, .slice Ao43 t251.length co43], .int .i64 a2] (by rfl) rfl rfl mM ?_
        with_reducible refine (ih k1 (by have := HK1.out;omega) a0_0 _ _ l0_1 _ _ t248 _ _ t251 a2 t254 t257 _ ?side1 ?side2 ?side3 ?side4 ?side5 ?side6 A36.out).mono ?_
        (case side1 => exact cP (Kd.C_below HR0_1.out HB.out))
        (case side2 => exact HC0_1.out)
        (case side3 => exact cP (Kd.R_reads' HO250.out).2.2)
        (case side4 => exact (Kd.R_reads' HO250.out).2.1)
        (case side5 => exact cP (Kd.R_reads' HO253.out).2.2)
        (case side6 => exact (Kd.R_reads' HO253.out).2.1)
        rintro e w44 ⟨v255, rfl, ho0, hb⟩
        have HS4_ := (hb.cell (World.block_lt_of_cell? _ _ (hHeld.2.2.2.2))).trans (hHeld.2.2.2.2)
        refine ⟨_, rfl, ?_⟩
        have n0_ := Aside0.mk (Kd.N_elder' (by (with_reducible repeat (first | apply Kd.N_alloc | apply Kd.N_drewN | apply Kd.N_drew));exact HO_9.out) (Kd.N_base ho0) hb)
        have n1_ := Aside0.mk (Kd.N_elder' (by (with_reducible repeat (first | apply Kd.N_alloc | apply Kd.N_drewN | apply Kd.N_drew));exact HO_11.out) (Kd.N_base ho0) hb)
        have n2_ := Aside0.mk (Kd.V_elder' (by (with_reducible repeat (first | apply Kd.V_alloc | apply Kd.V_drewN | apply Kd.V_drew));exact HL247_0.out) (Kd.N_base ho0) hb)
        have n3_ := Aside0.mk (Kd.R_below (by exact rP HO250.out) hb)
        have n4_ := Aside0.mk (Kd.R_below (by exact rP HO253.out) hb)
        have n5_ := Aside0.mk (Kd.N_lower (Kd.N_mono (ok' := fun k_ => (w.heap.size ≤ k_) ∧ some k_ ≠ (u9 : Value).ownBlock ∧ some k_ ≠ (.slice (some ad247) t244.length co39 : Value).ownBlock ∧ some k_ ≠ (.slice Ao42 t248.length co42 : Value).ownBlock ∧ some k_ ≠ (.slice Ao43 t251.length co43 : Value).ownBlock ∧ k_ ≠ gb229 ∧ k_ ≠ gb230) ho0 (fun k_ hk_ => ⟨(Nat.le_trans (below_size (by exact bB)) hk_), (Kd.fresh' (Kd.N_lt (by (with_reducible repeat (first | apply Kd.N_alloc | apply Kd.N_drewN | apply Kd.N_drew));exact HO_9.out)) k_ hk_), (Kd.fresh' (Kd.N_lt (by (with_reducible repeat (first | apply Kd.N_alloc | apply Kd.N_drewN | apply Kd.N_drew));exact HO_11.out)) k_ hk_), (Kd.fresh' (Kd.R_lt (by exact rP HO250.out)) k_ hk_), (Kd.fresh' (Kd.R_lt (by exact rP HO253.out)) k_ hk_), (Kd.freshB (g := gb229) (o := .cells #[.int .i64 a0_0, .slice A0_1 l0_1.length c0_1] 29 (0, 0)) (by exact kP BK229.out) k_ hk_), (Kd.freshB (g := gb230) (o := .cells #[.slice A1_0 l1_0.length c1_0, .slice A1_1 l1_1.length c1_1] 70 (0, 0)) (by exact kP BK230.out) k_ hk_)⟩)) (below_size (by exact bB)))
        have n6_ := Aside0.mk (blk_below (g := gb229) (o := .cells #[.int .i64 a0_0, .slice A0_1 l0_1.length c0_1] 29 (0, 0)) (by exact kP BK229.out) hb)
        have n7_ := Aside0.mk (blk_below (g := gb230) (o := .cells #[.slice A1_0 l1_0.length c1_0, .slice A1_1 l1_1.length c1_1] 70 (0, 0)) (by exact kP BK230.out) hb)
        have n8_ := Aside0.mk (Kd.C_below (by repeat (first | (with_reducible exact HR247_0.out) | (with_reducible refine Kd.C_alloc ?_ _) | (with_reducible refine Kd.C_drewN ?_ _) | (with_reducible refine Kd.C_drew ?_) | exact HR247_0.out)) hb)
        have n9_ := Aside0.mk (below_step (by exact bB) hb)
        clear HO_9
        clear HO_11
        clear HL247_0
        clear HO250
        clear HO253
        clear BK229
        clear BK230
        clear HR247_0
        clear HB
        have HO_9 := n0_
        have HO_11 := n1_
        have HL247_0 := n2_
        have HO250 := n3_
        have HO253 := n4_
        have HO256 := n5_
        have BK229 := n6_
        have BK230 := n7_
        have HR247_0 := n8_
        have HB := n9_
        clear n0_ n1_ n2_ n3_ n4_ n5_ n6_ n7_ n8_ n9_
        (try clear hb)
        (try clear hb2)
        (try clear hk)
        (try clear hi)
        (try clear ho0)
        refine hK.out _ _ ⟨(blk_cell BK229.out 0).trans rfl, (blk_cell BK229.out 1).trans rfl, (blk_cell BK230.out 0).trans rfl, (blk_cell BK230.out 1).trans rfl, HS4_⟩ (fun hHeld => ?_)
        clear hK K
        refine norm_ (a' := ?_) ?_ ?_
        rotate_left
        ·show Act.put _ (some 53) _ = _
         simp only [Act.put, List.setIfInBounds_toArray, List.set_cons_zero, List.set_cons_succ, i64_w, i32_w]
         rfl
        refine pure_ (i := 10) (N := some 43) (v := ?_) (a' := ?_) #[true,true,true,true,true,true,true,true,true,true,true,false,false,false,false] rfl rfl (any_of HT_.out (by kernel_rfl)) (fun _ _ _ h => h) (Or.inl ⟨by rfl, ?_⟩) ?_ ?_
        rotate_left
        ·intro w'
         go_simp
         with_reducible rfl
        rotate_left
        ·simp only [Act.put, List.setIfInBounds_toArray, List.set_cons_zero, List.set_cons_succ, i64_w, i32_w]
         rfl
        refine pure_ (i := 11) (N := some 54) (v := ?_) (a' := ?_) #[true,true,true,true,true,true,true,true,true,true,true,true,false,false,false] rfl rfl (any_of HT_.out (by kernel_rfl)) (fun _ _ _ h => h) (Or.inl ⟨by rfl, ?_⟩) ?_ ?_
        rotate_left
        ·intro w'
         go_simp
         with_reducible rfl
        rotate_left
        ·simp only [Act.put, List.setIfInBounds_toArray, List.set_cons_zero, List.set_cons_succ, i64_w, i32_w]
         rfl
        refine pure_ (i := 12) (N := some 55) (v := ?_) (a' := ?_) #[true,true,true,true,true,true,true,true,true,true,true,true,true,false,false] rfl rfl (any_of HT_.out (by kernel_rfl)) (fun _ _ _ h => h) (Or.inl ⟨by rfl, ?_⟩) ?_ ?_
        rotate_left
        ·intro w'
         go_simp
         with_reducible rfl
        rotate_left
        ·simp only [Act.put, List.setIfInBounds_toArray, List.set_cons_zero, List.set_cons_succ, i64_w, i32_w]
         rfl
        refine pure_ (i := 13) (N := some 13) (v := ?_) (a' := ?_) #[true,true,true,true,true,true,true,true,true,true,true,true,true,true,false] rfl rfl (any_of HT_.out (by kernel_rfl)) (fun _ _ _ h => h) (Or.inl ⟨by rfl, ?_⟩) ?_ ?_
        rotate_left
        ·intro w'
         go_simp
         with_reducible rfl
        rotate_left
        ·simp only [Act.put, List.setIfInBounds_toArray, List.set_cons_zero, List.set_cons_succ, i64_w, i32_w]
         rfl
        refine pure_ (i := 14) (N := some 14) (v := ?_) (a' := ?_) #[true,true,true,true,true,true,true,true,true,true,true,true,true,true,true] rfl rfl (any_of HT_.out (by kernel_rfl)) (fun _ _ _ h => h) (Or.inl ⟨by rfl, ?_⟩) ?_ ?_
        rotate_left
        ·intro w'
         go_simp
         with_reducible rfl
        rotate_left
        ·simp only [Act.put, List.setIfInBounds_toArray, List.set_cons_zero, List.set_cons_succ, i64_w, i32_w]
         rfl
        refine done_ (done_of HT_.out (by kernel_rfl)) ?_
        have p258 : 0 ≤ (x12_1 : Int) := oA
        have q258 : x12_1 < (t244.length : Int) := oA
        obtain ⟨ad258, A258_0, c258_0, e258, hx258_0, hl258_0, hi258_0⟩ := at_L2 (Kd.N_reads' HO_11.out).2.2 x12_1 p258 q258
        obtain rfl : ad247 = ad258 := (by injection e258)
        (first | (have h_ := hx258_0.symm.trans hx247_0;obtain ⟨rfl, rfl⟩ : A258_0 = A247_0 ∧ c258_0 = c247_0 := (by simpa using h_)) | (have h_ := hx258_0.symm.trans hw247_0;obtain ⟨rfl, rfl⟩ : A258_0 = A247_0 ∧ c258_0 = c247_0 := (by simpa using h_)) | (have h_ := hx258_0.symm.trans HS0_;obtain ⟨rfl, rfl⟩ : A258_0 = A247_0 ∧ c258_0 = c247_0 := (by simpa using h_)) | (have h_ := hx258_0.symm.trans HS1_;obtain ⟨rfl, rfl⟩ : A258_0 = A247_0 ∧ c258_0 = c247_0 := (by simpa using h_)) | (have h_ := hx258_0.symm.trans HS2_;obtain ⟨rfl, rfl⟩ : A258_0 = A247_0 ∧ c258_0 = c247_0 := (by simpa using h_)) | (have h_ := hx258_0.symm.trans HS3_;obtain ⟨rfl, rfl⟩ : A258_0 = A247_0 ∧ c258_0 = c247_0 := (by simpa using h_)) | (have h_ := hx258_0.symm.trans HS4_;obtain ⟨rfl, rfl⟩ : A258_0 = A247_0 ∧ c258_0 = c247_0 := (by simpa using h_)) | (have h_ := hx258_0.symm.trans HS5_;obtain ⟨rfl, rfl⟩ : A258_0 = A247_0 ∧ c258_0 = c247_0 := (by simpa using h_)) | (have h_ := hx258_0.symm.trans HS6_;obtain ⟨rfl, rfl⟩ : A258_0 = A247_0 ∧ c258_0 = c247_0 := (by simpa using h_)) | (have h_ := hx258_0.symm.trans HS7_;obtain ⟨rfl, rfl⟩ : A258_0 = A247_0 ∧ c258_0 = c247_0 := (by simpa using h_)) | (have h_ := hx258_0.symm.trans HS8_;obtain ⟨rfl, rfl⟩ : A258_0 = A247_0 ∧ c258_0 = c247_0 := (by simpa using h_)) | (have h_ := hx258_0.symm.trans HS9_;obtain ⟨rfl, rfl⟩ : A258_0 = A247_0 ∧ c258_0 = c247_0 := (by simpa using h_)))
        obtain ⟨ce258, hce258, hMe258, hcc258⟩ := Kd.N_get HO_11.out [] x12_1 p258 (by first | exact q258 | exact oA | (have e_ := (Kd.N_reads' HO_11.out).1;omega))
        obtain ⟨ua258_0, uc258_0, rfl, ul258_0, ge258_0⟩ := Kd.FK_slice_open hMe258
        have hv258_0 := hcc258 0 _ rfl
        rw [Nat.add_zero, show ((Kd.slice 3 (Kd.int .i64))).sz = 1 from rfl, Nat.mul_one] at hv258_0
        replace hv258_0 := Option.some.inj (hv258_0.symm.trans hx258_0)
        injection hv258_0 with hva_ hvn_ hvc_
        rw [hva_] at ge258_0
        rw [hvc_] at ul258_0
        have HL258_0 := Aside0.mk (show Kd.V (Kd.int .i64) 3 _ w.heap.size _ _ (rd_L2 t244 x12_1) from Kd.V_mk ul258_0 ge258_0)
        clear hva_ hvn_ hvc_ ge258_0 ul258_0
        clear hcc258 hce258
        have HR258_0 := Aside0.mk hi258_0
        have HC258_0 := Aside0.mk hl258_0
        clear hi258_0 hl258_0
        replace p258 := eq_true p258
        replace q258 := eq_true q258
        try go_wp2_with (first | ((with_reducible refine gate_dst (N := 63) rfl ?_);refine Kd.N_lit (Kd.slice 3 (Kd.int .i64)) _ 25 ?hg (N' := 63) ?hd (xs := ([rd_L2 t244 x12_1] : List (List Int))) (inner := [.slice A258_0 (rd_L2 t244 x12_1).length c258_0]) (ok := (fun k_ => (w.heap.size ≤ k_) ∧ some k_ ≠ (u9 : Value).ownBlock ∧ some k_ ≠ (.slice (some ad247) t244.length co39 : Value).ownBlock ∧ some k_ ≠ (.slice Ao42 t248.length co42 : Value).ownBlock ∧ some k_ ≠ (.slice Ao43 t251.length co43 : Value).ownBlock ∧ some k_ ≠ (v255 : Value).ownBlock ∧ k_ ≠ gb229 ∧ k_ ≠ gb230)) (okp := (fun k_ => (w.heap.size ≤ k_) ∧ some k_ ≠ (u9 : Value).ownBlock ∧ some k_ ≠ (.slice (some ad247) t244.length co39 : Value).ownBlock ∧ some k_ ≠ (.slice Ao42 t248.length co42 : Value).ownBlock ∧ some k_ ≠ (.slice Ao43 t251.length co43 : Value).ownBlock ∧ some k_ ≠ (v255 : Value).ownBlock ∧ k_ ≠ gb229 ∧ k_ ≠ gb230)) ?hr ?hp (fun _ hk => hk) ((show ∀ k_, w44.heap.size ≤ k_ → (fun k_ => (w.heap.size ≤ k_) ∧ some k_ ≠ (u9 : Value).ownBlock ∧ some k_ ≠ (.slice (some ad247) t244.length co39 : Value).ownBlock ∧ some k_ ≠ (.slice Ao42 t248.length co42 : Value).ownBlock ∧ some k_ ≠ (.slice Ao43 t251.length co43 : Value).ownBlock ∧ some k_ ≠ (v255 : Value).ownBlock ∧ k_ ≠ gb229 ∧ k_ ≠ gb230) k_ from fun k_ hk => ⟨(Nat.le_trans (below_size (by exact bB)) hk), Kd.fresh' (Kd.N_lt (by (with_reducible repeat (first | apply Kd.N_alloc | apply Kd.N_drewN | apply Kd.N_drew));exact HO_9.out)) k_ hk, Kd.fresh' (Kd.N_lt (by (with_reducible repeat (first | apply Kd.N_alloc | apply Kd.N_drewN | apply Kd.N_drew));exact HO_11.out)) k_ hk, Kd.fresh' (Kd.R_lt (by exact rP HO250.out)) k_ hk, Kd.fresh' (Kd.R_lt (by exact rP HO253.out)) k_ hk, Kd.fresh' (Kd.N_lt (by (with_reducible repeat (first | apply Kd.N_alloc | apply Kd.N_drewN | apply Kd.N_drew));exact HO256.out)) k_ hk, Kd.freshB (g := gb229) (o := .cells #[.int .i64 a0_0, .slice A0_1 l0_1.length c0_1] 29 (0, 0)) (by exact kP BK229.out) k_ hk, Kd.freshB (g := gb230) (o := .cells #[.slice A1_0 l1_0.length c1_0, .slice A1_1 l1_1.length c1_1] 70 (0, 0)) (by exact kP BK230.out) k_ hk⟩) _ (Nat.le_refl _)) (Below.refl _ _) (Nat.le_refl _) (by simp) ?_;(case hd => rfl);(case hg => rfl);(case hr => first | (go_simp;done) | (go_simp;rfl));(case hp => exact (Reps.one (show Kd.FK (Kd.slice 3 (Kd.int .i64)) _ _ (rd_L2 t244 x12_1) [.slice A258_0 (rd_L2 t244 x12_1).length c258_0] from (Kd.FK_slice_mk (Kd.V_reads' (Kd.V_mono (ok' := (fun k_ => (w.heap.size ≤ k_) ∧ some k_ ≠ (u9 : Value).ownBlock ∧ some k_ ≠ (.slice (some ad247) t244.length co39 : Value).ownBlock ∧ some k_ ≠ (.slice Ao42 t248.length co42 : Value).ownBlock ∧ some k_ ≠ (.slice Ao43 t251.length co43 : Value).ownBlock ∧ some k_ ≠ (v255 : Value).ownBlock ∧ k_ ≠ gb229 ∧ k_ ≠ gb230)) (HL258_0.out) (fun k_ hk => ⟨hk.1.1.1.1.1, ⟨hk.1.1.1.1.2.1, ⟨hk.2, ⟨hk.1.1.1.2, ⟨hk.1.1.2, ⟨hk.1.2, ⟨hk.1.1.1.1.2.2.1, hk.1.1.1.1.2.2.2⟩⟩⟩⟩⟩⟩⟩))).2.1 (Kd.V_F (Kd.V_mono (ok' := (fun k_ => (w.heap.size ≤ k_) ∧ some k_ ≠ (u9 : Value).ownBlock ∧ some k_ ≠ (.slice (some ad247) t244.length co39 : Value).ownBlock ∧ some k_ ≠ (.slice Ao42 t248.length co42 : Value).ownBlock ∧ some k_ ≠ (.slice Ao43 t251.length co43 : Value).ownBlock ∧ some k_ ≠ (v255 : Value).ownBlock ∧ k_ ≠ gb229 ∧ k_ ≠ gb230)) (HL258_0.out) (fun k_ hk => ⟨hk.1.1.1.1.1, ⟨hk.1.1.1.1.2.1, ⟨hk.2, ⟨hk.1.1.1.2, ⟨hk.1.1.2, ⟨hk.1.2, ⟨hk.1.1.1.1.2.2.1, hk.1.1.1.1.2.2.2⟩⟩⟩⟩⟩⟩⟩))))) (Reps.none _ _)));intro v260 w45 ho46 hb hg_ hnew_;clear hg_ hnew_;(first | rw [← Ny259.out] at ho46 | (simp only [Int.reduceToNat] at ho46;rw [← Ny259.out] at ho46));have n0_ := Aside0.mk (Kd.N_elder' (by (with_reducible repeat (first | apply Kd.N_alloc | apply Kd.N_drewN | apply Kd.N_drew));exact HO_9.out) (Kd.N_base ho46) hb);have n1_ := Aside0.mk (Kd.N_elder' (by (with_reducible repeat (first | apply Kd.N_alloc | apply Kd.N_drewN | apply Kd.N_drew));exact HO_11.out) (Kd.N_base ho46) hb);have n2_ := Aside0.mk (Kd.V_elder' (by (with_reducible repeat (first | apply Kd.V_alloc | apply Kd.V_drewN | apply Kd.V_drew));exact HL247_0.out) (Kd.N_base ho46) hb);have n3_ := Aside0.mk (Kd.R_below (by exact rP HO250.out) hb);have n4_ := Aside0.mk (Kd.R_below (by exact rP HO253.out) hb);have n5_ := Aside0.mk (Kd.N_elder' (by (with_reducible repeat (first | apply Kd.N_alloc | apply Kd.N_drewN | apply Kd.N_drew));exact HO256.out) (Kd.N_base ho46) hb);have n6_ := Aside0.mk (Kd.V_elder' (by (with_reducible repeat (first | apply Kd.V_alloc | apply Kd.V_drewN | apply Kd.V_drew));exact HL258_0.out) (Kd.N_base ho46) hb);have n7_ := Aside0.mk (Kd.N_lower ho46 (below_size (by exact bB)));have n8_ := Aside0.mk (blk_below (g := gb229) (o := .cells #[.int .i64 a0_0, .slice A0_1 l0_1.length c0_1] 29 (0, 0)) (by exact kP BK229.out) hb);have n9_ := Aside0.mk (blk_below (g := gb230) (o := .cells #[.slice A1_0 l1_0.length c1_0, .slice A1_1 l1_1.length c1_1] 70 (0, 0)) (by exact kP BK230.out) hb);have n10_ := Aside0.mk (Kd.C_below (by repeat (first | (with_reducible exact HR247_0.out) | (with_reducible refine Kd.C_alloc ?_ _) | (with_reducible refine Kd.C_drewN ?_ _) | (with_reducible refine Kd.C_drew ?_) | exact HR247_0.out)) hb);have n11_ := Aside0.mk (Kd.C_below (by repeat (first | (with_reducible exact HR258_0.out) | (with_reducible refine Kd.C_alloc ?_ _) | (with_reducible refine Kd.C_drewN ?_ _) | (with_reducible refine Kd.C_drew ?_) | exact HR258_0.out)) hb);have n12_ := Aside0.mk (below_step (by exact bB) hb);clear HO_9;clear HO_11;clear HL247_0;clear HO250;clear HO253;clear HO256;clear HL258_0;clear BK229;clear BK230;clear HR247_0;clear HR258_0;clear HB;have HO_9 := n0_;have HO_11 := n1_;have HL247_0 := n2_;have HO250 := n3_;have HO253 := n4_;have HO256 := n5_;have HL258_0 := n6_;have HO261 := n7_;have BK229 := n8_;have BK230 := n9_;have HR247_0 := n10_;have HR258_0 := n11_;have HB := n12_;clear n0_ n1_ n2_ n3_ n4_ n5_ n6_ n7_ n8_ n9_ n10_ n11_ n12_;clear hb ho46;obtain ⟨Ao48, co48, eo48⟩ := Kd.N_slice HO256.out;subst eo48) | ((with_reducible refine gate_builtin (b := .append) (xs := #[.tmp 63, .tmp 64]) rfl ?_);at_builtin;refine Kd.N_append_rows (Kd.slice 3 (Kd.int .i64)) (w0 := w) w.heap.size rfl (.tmp 63) (.tmp 64) 37 25 (.slice none 0 0) 24 rfl Try.underlying37 info25 rfl (by decide) (by omega) v260 y259 t254 _ _ _ (fun k_ => (w.heap.size ≤ k_) ∧ some k_ ≠ (u9 : Value).ownBlock ∧ some k_ ≠ (.slice (some ad247) t244.length co39 : Value).ownBlock ∧ some k_ ≠ (.slice Ao42 t248.length co42 : Value).ownBlock ∧ some k_ ≠ (.slice Ao43 t251.length co43 : Value).ownBlock ∧ k_ ≠ gb229 ∧ k_ ≠ gb230) (fun k_ => ((fun k_ => (w.heap.size ≤ k_) ∧ some k_ ≠ (u9 : Value).ownBlock ∧ some k_ ≠ (.slice (some ad247) t244.length co39 : Value).ownBlock ∧ some k_ ≠ (.slice Ao42 t248.length co42 : Value).ownBlock ∧ some k_ ≠ (.slice Ao43 t251.length co43 : Value).ownBlock ∧ k_ ≠ gb229 ∧ k_ ≠ gb230)) k_ ∧ some k_ ≠ (v260 : Value).ownBlock) rfl rfl ?aO ?aR (fun _ hk => hk) ?aF ?aB ?aS ?aL ?_;(case aR => exact (by skip;exact Kd.N_F (Kd.N_mono (ok' := (fun k_ => ((fun k_ => (w.heap.size ≤ k_) ∧ some k_ ≠ (u9 : Value).ownBlock ∧ some k_ ≠ (.slice (some ad247) t244.length co39 : Value).ownBlock ∧ some k_ ≠ (.slice Ao42 t248.length co42 : Value).ownBlock ∧ some k_ ≠ (.slice Ao43 t251.length co43 : Value).ownBlock ∧ k_ ≠ gb229 ∧ k_ ≠ gb230)) k_ ∧ some k_ ≠ (v260 : Value).ownBlock)) (HO256.out) (fun k_ hk => ⟨⟨hk.1.1, ⟨hk.1.2.1, ⟨hk.1.2.2.1, ⟨hk.1.2.2.2.1, ⟨hk.1.2.2.2.2.1, ⟨hk.1.2.2.2.2.2.1, hk.1.2.2.2.2.2.2⟩⟩⟩⟩⟩⟩, hk.2⟩))));(case aB => exact (by exact bB));(case aF => exact (fun k_ hk => ⟨(Nat.le_trans (below_size (by exact bB)) hk), Kd.fresh' (Kd.N_lt (by (with_reducible repeat (first | apply Kd.N_alloc | apply Kd.N_drewN | apply Kd.N_drew));exact HO_9.out)) k_ hk, Kd.fresh' (Kd.N_lt (by (with_reducible repeat (first | apply Kd.N_alloc | apply Kd.N_drewN | apply Kd.N_drew));exact HO_11.out)) k_ hk, Kd.fresh' (Kd.R_lt (by exact rP HO250.out)) k_ hk, Kd.fresh' (Kd.R_lt (by exact rP HO253.out)) k_ hk, Kd.freshB (g := gb229) (o := .cells #[.int .i64 a0_0, .slice A0_1 l0_1.length c0_1] 29 (0, 0)) (by exact kP BK229.out) k_ hk, Kd.freshB (g := gb230) (o := .cells #[.slice A1_0 l1_0.length c1_0, .slice A1_1 l1_1.length c1_1] 70 (0, 0)) (by exact kP BK230.out) k_ hk⟩));(case aO => exact (by (with_reducible repeat (first | apply Kd.N_alloc | apply Kd.N_drewN | apply Kd.N_drew));exact Kd.N_mono HO261.out (fun _ hk => ⟨hk.1, ⟨hk.2.1, ⟨hk.2.2.1, ⟨hk.2.2.2.1, ⟨hk.2.2.2.2.1, ⟨hk.2.2.2.2.2.2.1, hk.2.2.2.2.2.2.2⟩⟩⟩⟩⟩⟩)));(case aS => exact (below_size (by exact bB)));(case aL => have := LMc38.out;omega);intro v263 w47 ho hb hg hat;rw [← Ny262.out] at ho;have n0_ := Aside0.mk (Kd.N_afterv (ok := (fun k_ => (w.heap.size ≤ k_) ∧ some k_ ≠ (.slice (some ad247) t244.length co39 : Value).ownBlock ∧ some k_ ≠ (.slice Ao42 t248.length co42 : Value).ownBlock ∧ some k_ ≠ (.slice Ao43 t251.length co43 : Value).ownBlock ∧ some k_ ≠ (.slice Ao48 t254.length co48 : Value).ownBlock ∧ k_ ≠ gb229 ∧ k_ ≠ gb230)) (by (with_reducible repeat (first | apply Kd.N_alloc | apply Kd.N_drewN | apply Kd.N_drew));exact Kd.N_mono HO_9.out (fun _ hk => ⟨⟨hk.1.1.1.1.1, ⟨hk.1.1.1.1.2.1, ⟨hk.1.1.1.2, ⟨hk.1.1.2, ⟨hk.1.2, ⟨hk.1.1.1.1.2.2.1, hk.1.1.1.1.2.2.2⟩⟩⟩⟩⟩⟩, hk.2⟩)) hg hat);have n1_ := Aside0.mk (Kd.N_afterv (ok := (fun k_ => (w.heap.size ≤ k_) ∧ some k_ ≠ (u9 : Value).ownBlock ∧ some k_ ≠ (.slice Ao42 t248.length co42 : Value).ownBlock ∧ some k_ ≠ (.slice Ao43 t251.length co43 : Value).ownBlock ∧ some k_ ≠ (.slice Ao48 t254.length co48 : Value).ownBlock ∧ k_ ≠ gb229 ∧ k_ ≠ gb230)) (by (with_reducible repeat (first | apply Kd.N_alloc | apply Kd.N_drewN | apply Kd.N_drew));exact Kd.N_mono HO_11.out (fun _ hk => ⟨⟨hk.1.1.1.1.1, ⟨hk.1.1.1.1.2.1, ⟨hk.1.1.1.2, ⟨hk.1.1.2, ⟨hk.1.2, ⟨hk.1.1.1.1.2.2.1, hk.1.1.1.1.2.2.2⟩⟩⟩⟩⟩⟩, hk.2⟩)) hg hat);have n2_ := Aside0.mk (blk_grown (g := gb229) (o := .cells #[.int .i64 a0_0, .slice A0_1 l0_1.length c0_1] 29 (0, 0)) (by exact kP BK229.out) hg (Kd.N_ne HO261.out BK229.out (by decide)));have n3_ := Aside0.mk (blk_grown (g := gb230) (o := .cells #[.slice A1_0 l1_0.length c1_0, .slice A1_1 l1_1.length c1_1] 70 (0, 0)) (by exact kP BK230.out) hg (Kd.N_ne HO261.out BK230.out (by decide)));have n4_ := Aside0.mk (Kd.V_afterv (ok := (fun k_ => (w.heap.size ≤ k_) ∧ some k_ ≠ (u9 : Value).ownBlock ∧ some k_ ≠ (.slice (some ad247) t244.length co39 : Value).ownBlock ∧ some k_ ≠ (.slice Ao42 t248.length co42 : Value).ownBlock ∧ some k_ ≠ (.slice Ao43 t251.length co43 : Value).ownBlock ∧ some k_ ≠ (.slice Ao48 t254.length co48 : Value).ownBlock ∧ k_ ≠ gb229 ∧ k_ ≠ gb230)) (by (with_reducible repeat (first | apply Kd.V_alloc | apply Kd.V_drewN | apply Kd.V_drew));exact Kd.V_mono HL247_0.out (fun _ hk => ⟨⟨hk.1.1.1.1.1.1, ⟨hk.1.1.1.1.1.2.1, ⟨hk.1.1.1.1.2, ⟨hk.1.1.1.2, ⟨hk.1.1.2, ⟨hk.1.2, ⟨hk.1.1.1.1.1.2.2.1, hk.1.1.1.1.1.2.2.2⟩⟩⟩⟩⟩⟩⟩, hk.2⟩)) hg hat);have n5_ := Aside0.mk (Kd.R_over' (by exact rP HO250.out) (Kd.N_typed (by (with_reducible repeat (first | apply Kd.N_alloc | apply Kd.N_drewN | apply Kd.N_drew));exact HO261.out)) (by decide) hg);have n6_ := Aside0.mk (Kd.R_over' (by exact rP HO253.out) (Kd.N_typed (by (with_reducible repeat (first | apply Kd.N_alloc | apply Kd.N_drewN | apply Kd.N_drew));exact HO261.out)) (by decide) hg);have n7_ := Aside0.mk (Kd.N_afterv (ok := (fun k_ => (w.heap.size ≤ k_) ∧ some k_ ≠ (u9 : Value).ownBlock ∧ some k_ ≠ (.slice (some ad247) t244.length co39 : Value).ownBlock ∧ some k_ ≠ (.slice Ao42 t248.length co42 : Value).ownBlock ∧ some k_ ≠ (.slice Ao43 t251.length co43 : Value).ownBlock ∧ k_ ≠ gb229 ∧ k_ ≠ gb230)) (by (with_reducible repeat (first | apply Kd.N_alloc | apply Kd.N_drewN | apply Kd.N_drew));exact HO256.out) hg hat);have n8_ := Aside0.mk (Kd.V_afterv (ok := (fun k_ => (w.heap.size ≤ k_) ∧ some k_ ≠ (u9 : Value).ownBlock ∧ some k_ ≠ (.slice (some ad247) t244.length co39 : Value).ownBlock ∧ some k_ ≠ (.slice Ao42 t248.length co42 : Value).ownBlock ∧ some k_ ≠ (.slice Ao43 t251.length co43 : Value).ownBlock ∧ some k_ ≠ (.slice Ao48 t254.length co48 : Value).ownBlock ∧ k_ ≠ gb229 ∧ k_ ≠ gb230)) (by (with_reducible repeat (first | apply Kd.V_alloc | apply Kd.V_drewN | apply Kd.V_drew));exact Kd.V_mono HL258_0.out (fun _ hk => ⟨⟨hk.1.1.1.1.1.1, ⟨hk.1.1.1.1.1.2.1, ⟨hk.1.2, ⟨hk.1.1.1.1.2, ⟨hk.1.1.1.2, ⟨hk.1.1.2, ⟨hk.1.1.1.1.1.2.2.1, hk.1.1.1.1.1.2.2.2⟩⟩⟩⟩⟩⟩⟩, hk.2⟩)) hg hat);have n9_ := Aside0.mk (hb);have n10_ := Aside0.mk (ho);clear HO_9;clear HO_11;clear BK229;clear BK230;clear HL247_0;clear HO250;clear HO253;clear HO256;clear HL258_0;clear HB;clear HO261;have HO_9 := n0_;have HO_11 := n1_;have BK229 := n2_;have BK230 := n3_;have HL247_0 := n4_;have HO250 := n5_;have HO253 := n6_;have HO256 := n7_;have HL258_0 := n8_;have HB := n9_;have HO264 := n10_;clear n0_ n1_ n2_ n3_ n4_ n5_ n6_ n7_ n8_ n9_ n10_;clear ho hb hg hat))
        go_roundg k1
        case measure => have := HK1.out;omega
        case rel => exact ⟨(y262), (t257), (wrap64 (x12_1 + 1)), (by first | rfl | (simp;done) | (simp [*];done)), (by first | rfl | (simp;done) | (simp [*];done)), H', ⟨by have := HK1.out;omega⟩, ⟨by (with_reducible repeat (first | apply Kd.N_alloc | apply Kd.N_drewN | apply Kd.N_drew));exact Kd.N_mono HO264.out (fun _ hk => ⟨hk.1, ⟨hk.2.2.1, ⟨hk.2.2.2.2.2.1, hk.2.2.2.2.2.2⟩⟩⟩)⟩, ⟨by (with_reducible repeat (first | apply Kd.N_alloc | apply Kd.N_drewN | apply Kd.N_drew));exact Kd.N_mono HO_11.out (fun _ hk => ⟨hk.1.1, ⟨hk.2, ⟨hk.1.2.2.2.2.2.1, hk.1.2.2.2.2.2.2⟩⟩⟩)⟩, ⟨by exact kP BK229.out⟩, ⟨by exact kP BK230.out⟩, ⟨by exact bB⟩⟩
       ·rw [if_neg c38] at H
        exact absurd H (by simp)
      ·rw [if_neg c37] at H
       have c37b0 : decide (x10_1 < t257) = false := decide_eq_false c37
       clear c37
       have H' := Aside0.mk H
       clear H
       obtain ⟨Ao49, co49, eo49⟩ := Kd.N_slice HO_11.out
       subst eo49
       try go_wp2
       have n0_ := Aside0.mk (Kd.N_drew HO_9.out)
       have n1_ := Aside0.mk (Kd.N_drew HO_11.out)
       have n2_ := Aside0.mk (blk_drew BK229.out)
       have n3_ := Aside0.mk (blk_drew BK230.out)
       have n4_ := Aside0.mk (below_drew1 HB.out)
       clear HO_9
       clear HO_11
       clear BK229
       clear BK230
       clear HB
       have HO_9 := n0_
       have HO_11 := n1_
       have BK229 := n2_
       have BK230 := n3_
       have HB := n4_
       clear n0_ n1_ n2_ n3_ n4_
       have p247 : 0 ≤ (x12_1 : Int) := oA
       have q247 : x12_1 < (t244.length : Int) := oA
       obtain ⟨ad247, A247_0, c247_0, e247, hx247_0, hl247_0, hi247_0⟩ := at_L2 (Kd.N_reads' HO_11.out).2.2 x12_1 p247 q247
       cases e247
       obtain ⟨ce247, hce247, hMe247, hcc247⟩ := Kd.N_get HO_11.out [] x12_1 p247 (by first | exact q247 | exact oA | (have e_ := (Kd.N_reads' HO_11.out).1;omega))
       obtain ⟨ua247_0, uc247_0, rfl, ul247_0, ge247_0⟩ := Kd.FK_slice_open hMe247
       have hv247_0 := hcc247 0 _ rfl
       rw [Nat.add_zero, show ((Kd.slice 3 (Kd.int .i64))).sz = 1 from rfl, Nat.mul_one] at hv247_0
       replace hv247_0 := Option.some.inj (hv247_0.symm.trans hx247_0)
       injection hv247_0 with hva_ hvn_ hvc_
       rw [hva_] at ge247_0
       rw [hvc_] at ul247_0
       have HL247_0 := Aside0.mk (show Kd.V (Kd.int .i64) 3 _ w.heap.size _ _ (rd_L2 t244 x12_1) from Kd.V_mk ul247_0 ge247_0)
       clear hva_ hvn_ hvc_ ge247_0 ul247_0
       clear hcc247 hce247
       have HR247_0 := Aside0.mk hi247_0
       have HC247_0 := Aside0.mk hl247_0
       clear hi247_0 hl247_0
       replace p247 := eq_true p247
       replace q247 := eq_true q247
       refine start_ (n := 15) (S := fun w' => w'.cell? ⟨gb229, 0, none⟩ = some (.int .i64 a0_0) ∧ w'.cell? ⟨gb229, 1, none⟩ = some (.slice A0_1 l0_1.length c0_1) ∧ w'.cell? ⟨gb230, 0, none⟩ = some (.slice A1_0 l1_0.length c1_0) ∧ w'.cell? ⟨gb230, 1, none⟩ = some (.slice A1_1 l1_1.length c1_1) ∧ w'.cell? (ad247.add (x12_1).toNat) = some (.slice A247_0 (rd_L2 t244 x12_1).length c247_0)) (ds := []) #[false,false,false,false,false,false,false,false,false,false,false,false,false,false,false] (by kernel_rfl) rfl rfl ⟨(blk_cell BK229.out 0).trans rfl, (blk_cell BK229.out 1).trans rfl, (blk_cell BK230.out 0).trans rfl, (blk_cell BK230.out 1).trans rfl, hx247_0⟩ (fun hHeld => ?_);refine with_tabW spec_l8Best.tab8 spec_l8Best.bits8 (fun HT_ HW_ => ?_)
       generalize wr.drew = w50 at HO_9 HO_11 BK229 BK230 HB HL247_0 HR247_0 hx247_0 hHeld ⊢
       refine pure_ (i := 3) (N := some 47) (v := ?_) (a' := ?_) #[false,false,false,true,false,false,false,false,false,false,false,false,false,false,false] rfl rfl (any_of HT_.out (by kernel_rfl)) (fun _ _ _ h => h) (Or.inl ⟨by rfl, ?_⟩) ?_ ?_
       rotate_left
       ·intro w'
        go_simp
        with_reducible rfl
       rotate_left
       ·simp only [Act.put, List.setIfInBounds_toArray, List.set_cons_zero, List.set_cons_succ, i64_w, i32_w]
        rfl
       refine pure_ (i := 4) (N := some 48) (v := ?_) (a' := ?_) #[false,false,false,true,true,false,false,false,false,false,false,false,false,false,false] rfl rfl (any_of HT_.out (by kernel_rfl)) (fun _ _ _ h => h) (Or.inl ⟨by rfl, ?_⟩) ?_ ?_
       rotate_left
       ·intro w'
        go_simp
        with_reducible rfl
       rotate_left
       ·simp only [Act.put, List.setIfInBounds_toArray, List.set_cons_zero, List.set_cons_succ, i64_w, i32_w]
        rfl
       refine pure_ (i := 5) (N := some 49) (v := ?_) (a' := ?_) #[false,false,false,true,true,true,false,false,false,false,false,false,false,false,false] rfl rfl (any_of HT_.out (by kernel_rfl)) (fun _ _ _ h => h) (Or.inl ⟨by rfl, ?_⟩) ?_ ?_
       rotate_left
       ·intro w'
        go_simp
        with_reducible rfl
       rotate_left
       ·simp only [Act.put, List.setIfInBounds_toArray, List.set_cons_zero, List.set_cons_succ, i64_w, i32_w]
        rfl
       refine pure_ (i := 8) (N := some 52) (v := ?_) (a' := ?_) #[false,false,false,true,true,true,false,false,true,false,false,false,false,false,false] rfl rfl (any_of HT_.out (by kernel_rfl)) (fun _ _ _ h => h) (Or.inl ⟨by rfl, ?_⟩) ?_ ?_
       rotate_left
       ·intro w'
        go_simp
        with_reducible rfl
       rotate_left
       ·simp only [Act.put, List.setIfInBounds_toArray, List.set_cons_zero, List.set_cons_succ, i64_w, i32_w]
        rfl
       refine take_ (i := 0) (N := some 44) (v := ?_) (a' := ?_) #[true,false,false,true,true,true,false,false,true,false,false,false,false,false,false] rfl rfl (take_ofW HT_.out HW_.out (by kernel_rfl)) (fun _ _ _ h => h) (Or.inl ⟨by rfl, ?_⟩) hHeld ?_ ?_
       rotate_left
       ·rintro w' ⟨s0, s1, s2, s3, s4⟩
        go_simp
        with_reducible rfl
       rotate_left
       ·simp only [Act.put, List.setIfInBounds_toArray, List.set_cons_zero, List.set_cons_succ, i64_w, i32_w]
        rfl
       refine take_ (i := 1) (N := some 45) (v := ?_) (a' := ?_) #[true,true,false,true,true,true,false,false,true,false,false,false,false,false,false] rfl rfl (take_ofW HT_.out HW_.out (by kernel_rfl)) (fun _ _ _ h => h) (Or.inl ⟨by rfl, ?_⟩) hHeld ?_ ?_
       rotate_left
       ·rintro w' ⟨s0, s1, s2, s3, s4⟩
        go_simp
        with_reducible rfl
       rotate_left
       ·simp only [Act.put, List.setIfInBounds_toArray, List.set_cons_zero, List.set_cons_succ, i64_w, i32_w]
        rfl
       refine take_ (i := 2) (N := some 46) (v := ?_) (a' := ?_) #[true,true,true,true,true,true,false,false,true,false,false,false,false,false,false] rfl rfl (take_ofW HT_.out HW_.out (by kernel_rfl)) (fun _ _ _ h => h) (Or.inl ⟨by rfl, ?_⟩) hHeld ?_ ?_
       rotate_left
       ·rintro w' ⟨s0, s1, s2, s3, s4⟩
        go_simp
        with_reducible rfl
       rotate_left
       ·simp only [Act.put, List.setIfInBounds_toArray, List.set_cons_zero, List.set_cons_succ, i64_w, i32_w]
        rfl
       refine take_ (i := 6) (N := some 50) (v := ?_) (a' := ?_) #[true,true,true,true,true,true,true,false,true,false,false,false,false,false,false] rfl rfl (take_ofW HT_.out HW_.out (by kernel_rfl)) (fun _ _ _ h => h) (Or.inl ⟨by rfl, ?_⟩) hHeld ?_ ?_
       rotate_left
       ·rintro w' ⟨s0, s1, s2, s3, s4⟩
        go_simp
        with_reducible rfl
       rotate_left
       ·simp only [Act.put, List.setIfInBounds_toArray, List.set_cons_zero, List.set_cons_succ, i64_w, i32_w]
        rfl
       refine one_ (i := 7) (N := some 51) #[true,true,true,true,true,true,true,true,true,false,false,false,false,false,false] rfl rfl (one_of HT_.out (by kernel_rfl)) (by decide) (fun K hK => ?_)
       refine goes_ Try.func85 (by kernel_rfl) rfl #[.agg #[.int .i64 a0_0, .slice A0_1 l0_1.length c0_1], .agg #[.slice A1_0 l1_0.length c1_0, .slice A1_1 l1_1.length c1_1], .slice A247_0 (rd_L2 t244 x12_1).length c247_0] (by rfl) rfl rfl mM ?_
       with_reducible refine (spec_l8Round.calls k1 a0_0 _ _ l0_1 _ _ l1_0 _ _ l1_1 _ _ (rd_L2 t244 x12_1) t248 t251 _ ?side1 ?side2 ?side3 ?side4 ?side5 ?side6 ?side7 ?side8 A35.out).mono ?_
       (case side1 => exact cP (Kd.C_below HR0_1.out HB.out))
       (case side2 => exact HC0_1.out)
       (case side3 => exact cP (Kd.C_below HR1_0.out HB.out))
       (case side4 => exact HC1_0.out)
       (case side5 => exact cP (Kd.C_below HR1_1.out HB.out))
       (case side6 => exact HC1_1.out)
       (case side7 => exact cP (by repeat (first | (with_reducible exact HR247_0.out) | (with_reducible refine Kd.C_alloc ?_ _) | (with_reducible refine Kd.C_drewN ?_ _) | (with_reducible refine Kd.C_drew ?_) | exact HR247_0.out)))
       (case side8 => exact HC247_0.out)
       rintro e w51 ⟨v249, v252, rfl, ho0, ho1, hb⟩
       have HS4_ := (hb.cell (World.block_lt_of_cell? _ _ (hHeld.2.2.2.2))).trans (hHeld.2.2.2.2)
       refine ⟨_, rfl, ?_⟩
       have n0_ := Aside0.mk (Kd.N_mono (Kd.N_told (Kd.N_told (Kd.N_old (by (with_reducible repeat (first | apply Kd.N_alloc | apply Kd.N_drewN | apply Kd.N_drew));exact HO_9.out) hb) (Kd.R_base ho0)) (Kd.R_base ho1)) (fun _ h_ => h_.1))
       have n1_ := Aside0.mk (Kd.N_mono (Kd.N_told (Kd.N_told (Kd.N_old (by (with_reducible repeat (first | apply Kd.N_alloc | apply Kd.N_drewN | apply Kd.N_drew));exact HO_11.out) hb) (Kd.R_base ho0)) (Kd.R_base ho1)) (fun _ h_ => h_.1))
       have n2_ := Aside0.mk (Kd.V_mono (Kd.V_told (Kd.V_told (Kd.V_old (by (with_reducible repeat (first | apply Kd.V_alloc | apply Kd.V_drewN | apply Kd.V_drew));exact HL247_0.out) hb) (Kd.R_base ho0)) (Kd.R_base ho1)) (fun _ h_ => h_.1))
       have n3_ := Aside0.mk (Kd.R_lower (Kd.R_newM (M := fun k_ => (w.heap.size ≤ k_)) ho0 (below_size (by exact bB)) (fun k_ h_ => h_)) (below_size (by exact bB)))
       have n4_ := Aside0.mk (Kd.R_lower (Kd.R_newM (M := fun k_ => (w.heap.size ≤ k_)) ho1 (below_size (by exact bB)) (fun k_ h_ => h_)) (below_size (by exact bB)))
       have n5_ := Aside0.mk (blk_below (g := gb229) (o := .cells #[.int .i64 a0_0, .slice A0_1 l0_1.length c0_1] 29 (0, 0)) (by exact kP BK229.out) hb)
       have n6_ := Aside0.mk (blk_below (g := gb230) (o := .cells #[.slice A1_0 l1_0.length c1_0, .slice A1_1 l1_1.length c1_1] 70 (0, 0)) (by exact kP BK230.out) hb)
       have n7_ := Aside0.mk (Kd.C_below (by repeat (first | (with_reducible exact HR247_0.out) | (with_reducible refine Kd.C_alloc ?_ _) | (with_reducible refine Kd.C_drewN ?_ _) | (with_reducible refine Kd.C_drew ?_) | exact HR247_0.out)) hb)
       have n8_ := Aside0.mk (below_step (by exact bB) hb)
       clear HO_9
       clear HO_11
       clear HL247_0
       clear BK229
       clear BK230
       clear HR247_0
       clear HB
       have HO_9 := n0_
       have HO_11 := n1_
       have HL247_0 := n2_
       have HO250 := n3_
       have HO253 := n4_
       have BK229 := n5_
       have BK230 := n6_
       have HR247_0 := n7_
       have HB := n8_
       clear n0_ n1_ n2_ n3_ n4_ n5_ n6_ n7_ n8_
       (try clear hb)
       (try clear hb2)
       (try clear hk)
       (try clear hi)
       (try clear ho0)
       (try clear ho1)
       obtain ⟨Ao52, co52, eo52⟩ := Kd.R_slice HO250.out
       (first | subst eo52 | (injection eo52 with f1_ f2_ f3_;have f4_ := f1_.symm;have f5_ := f3_.symm;clear f1_ f2_ f3_;subst f4_;subst f5_))
       obtain ⟨Ao53, co53, eo53⟩ := Kd.R_slice HO253.out
       (first | subst eo53 | (injection eo53 with f1_ f2_ f3_;have f4_ := f1_.symm;have f5_ := f3_.symm;clear f1_ f2_ f3_;subst f4_;subst f5_))
       refine hK.out _ _ ⟨(blk_cell BK229.out 0).trans rfl, (blk_cell BK229.out 1).trans rfl, (blk_cell BK230.out 0).trans rfl, (blk_cell BK230.out 1).trans rfl, HS4_⟩ (fun hHeld => ?_)
       clear hK K
       refine norm_ (a' := ?_) ?_ ?_
       rotate_left
       ·show Act.put _ (some 51) _ = _
        simp only [Act.put, List.setIfInBounds_toArray, List.set_cons_zero, List.set_cons_succ, i64_w, i32_w]
        rfl
       refine one_ (i := 9) (N := some 53) #[true,true,true,true,true,true,true,true,true,true,false,false,false,false,false] rfl rfl (one_of HT_.out (by kernel_rfl)) (by decide) (fun K hK => ?_)
       refine goes_ Try.func50 (by kernel_rfl) rfl #[.agg #[.int .i64 a0_0, .slice A0_1 l0_1.length c0_1], .agg #[.slice Ao52 t248.length co52, .slice Ao53 t251.length co53], .int .i64 a2] (by rfl) rfl rfl mM ?_
       with_reducible refine (ih k1 (by have := HK1.out;omega) a0_0 _ _ l0_1 _ _ t248 _ _ t251 a2 t254 t257 _ ?side1 ?side2 ?side3 ?side4 ?side5 ?side6 A36.out).mono ?_
       (case side1 => exact cP (Kd.C_below HR0_1.out HB.out))
       (case side2 => exact HC0_1.out)
       (case side3 => exact cP (Kd.R_reads' HO250.out).2.2)
       (case side4 => exact (Kd.R_reads' HO250.out).2.1)
       (case side5 => exact cP (Kd.R_reads' HO253.out).2.2)
       (case side6 => exact (Kd.R_reads' HO253.out).2.1)
       rintro e w54 ⟨v255, rfl, ho0, hb⟩
       have HS4_ := (hb.cell (World.block_lt_of_cell? _ _ (hHeld.2.2.2.2))).trans (hHeld.2.2.2.2)
       refine ⟨_, rfl, ?_⟩
       have n0_ := Aside0.mk (Kd.N_elder' (by (with_reducible repeat (first | apply Kd.N_alloc | apply Kd.N_drewN | apply Kd.N_drew));exact HO_9.out) (Kd.N_base ho0) hb)
       have n1_ := Aside0.mk (Kd.N_elder' (by (with_reducible repeat (first | apply Kd.N_alloc | apply Kd.N_drewN | apply Kd.N_drew));exact HO_11.out) (Kd.N_base ho0) hb)
       have n2_ := Aside0.mk (Kd.V_elder' (by (with_reducible repeat (first | apply Kd.V_alloc | apply Kd.V_drewN | apply Kd.V_drew));exact HL247_0.out) (Kd.N_base ho0) hb)
       have n3_ := Aside0.mk (Kd.R_below (by exact rP HO250.out) hb)
       have n4_ := Aside0.mk (Kd.R_below (by exact rP HO253.out) hb)
       have n5_ := Aside0.mk (Kd.N_lower (Kd.N_mono (ok' := fun k_ => (w.heap.size ≤ k_) ∧ some k_ ≠ (u9 : Value).ownBlock ∧ some k_ ≠ (.slice (some ad247) t244.length co49 : Value).ownBlock ∧ some k_ ≠ (.slice Ao52 t248.length co52 : Value).ownBlock ∧ some k_ ≠ (.slice Ao53 t251.length co53 : Value).ownBlock ∧ k_ ≠ gb229 ∧ k_ ≠ gb230) ho0 (fun k_ hk_ => ⟨(Nat.le_trans (below_size (by exact bB)) hk_), (Kd.fresh' (Kd.N_lt (by (with_reducible repeat (first | apply Kd.N_alloc | apply Kd.N_drewN | apply Kd.N_drew));exact HO_9.out)) k_ hk_), (Kd.fresh' (Kd.N_lt (by (with_reducible repeat (first | apply Kd.N_alloc | apply Kd.N_drewN | apply Kd.N_drew));exact HO_11.out)) k_ hk_), (Kd.fresh' (Kd.R_lt (by exact rP HO250.out)) k_ hk_), (Kd.fresh' (Kd.R_lt (by exact rP HO253.out)) k_ hk_), (Kd.freshB (g := gb229) (o := .cells #[.int .i64 a0_0, .slice A0_1 l0_1.length c0_1] 29 (0, 0)) (by exact kP BK229.out) k_ hk_), (Kd.freshB (g := gb230) (o := .cells #[.slice A1_0 l1_0.length c1_0, .slice A1_1 l1_1.length c1_1] 70 (0, 0)) (by exact kP BK230.out) k_ hk_)⟩)) (below_size (by exact bB)))
       have n6_ := Aside0.mk (blk_below (g := gb229) (o := .cells #[.int .i64 a0_0, .slice A0_1 l0_1.length c0_1] 29 (0, 0)) (by exact kP BK229.out) hb)
       have n7_ := Aside0.mk (blk_below (g := gb230) (o := .cells #[.slice A1_0 l1_0.length c1_0, .slice A1_1 l1_1.length c1_1] 70 (0, 0)) (by exact kP BK230.out) hb)
       have n8_ := Aside0.mk (Kd.C_below (by repeat (first | (with_reducible exact HR247_0.out) | (with_reducible refine Kd.C_alloc ?_ _) | (with_reducible refine Kd.C_drewN ?_ _) | (with_reducible refine Kd.C_drew ?_) | exact HR247_0.out)) hb)
       have n9_ := Aside0.mk (below_step (by exact bB) hb)
       clear HO_9
       clear HO_11
       clear HL247_0
       clear HO250
       clear HO253
       clear BK229
       clear BK230
       clear HR247_0
       clear HB
       have HO_9 := n0_
       have HO_11 := n1_
       have HL247_0 := n2_
       have HO250 := n3_
       have HO253 := n4_
       have HO256 := n5_
       have BK229 := n6_
       have BK230 := n7_
       have HR247_0 := n8_
       have HB := n9_
       clear n0_ n1_ n2_ n3_ n4_ n5_ n6_ n7_ n8_ n9_
       (try clear hb)
       (try clear hb2)
       (try clear hk)
       (try clear hi)
       (try clear ho0)
       refine hK.out _ _ ⟨(blk_cell BK229.out 0).trans rfl, (blk_cell BK229.out 1).trans rfl, (blk_cell BK230.out 0).trans rfl, (blk_cell BK230.out 1).trans rfl, HS4_⟩ (fun hHeld => ?_)
       clear hK K
       refine norm_ (a' := ?_) ?_ ?_
       rotate_left
       ·show Act.put _ (some 53) _ = _
        simp only [Act.put, List.setIfInBounds_toArray, List.set_cons_zero, List.set_cons_succ, i64_w, i32_w]
        rfl
       refine pure_ (i := 10) (N := some 43) (v := ?_) (a' := ?_) #[true,true,true,true,true,true,true,true,true,true,true,false,false,false,false] rfl rfl (any_of HT_.out (by kernel_rfl)) (fun _ _ _ h => h) (Or.inl ⟨by rfl, ?_⟩) ?_ ?_
       rotate_left
       ·intro w'
        go_simp
        with_reducible rfl
       rotate_left
       ·simp only [Act.put, List.setIfInBounds_toArray, List.set_cons_zero, List.set_cons_succ, i64_w, i32_w]
        rfl
       refine pure_ (i := 11) (N := some 54) (v := ?_) (a' := ?_) #[true,true,true,true,true,true,true,true,true,true,true,true,false,false,false] rfl rfl (any_of HT_.out (by kernel_rfl)) (fun _ _ _ h => h) (Or.inl ⟨by rfl, ?_⟩) ?_ ?_
       rotate_left
       ·intro w'
        go_simp
        with_reducible rfl
       rotate_left
       ·simp only [Act.put, List.setIfInBounds_toArray, List.set_cons_zero, List.set_cons_succ, i64_w, i32_w]
        rfl
       refine pure_ (i := 12) (N := some 55) (v := ?_) (a' := ?_) #[true,true,true,true,true,true,true,true,true,true,true,true,true,false,false] rfl rfl (any_of HT_.out (by kernel_rfl)) (fun _ _ _ h => h) (Or.inl ⟨by rfl, ?_⟩) ?_ ?_
       rotate_left
       ·intro w'
        go_simp
        with_reducible rfl
       rotate_left
       ·simp only [Act.put, List.setIfInBounds_toArray, List.set_cons_zero, List.set_cons_succ, i64_w, i32_w]
        rfl
       refine pure_ (i := 13) (N := some 13) (v := ?_) (a' := ?_) #[true,true,true,true,true,true,true,true,true,true,true,true,true,true,false] rfl rfl (any_of HT_.out (by kernel_rfl)) (fun _ _ _ h => h) (Or.inl ⟨by rfl, ?_⟩) ?_ ?_
       rotate_left
       ·intro w'
        go_simp
        with_reducible rfl
       rotate_left
       ·simp only [Act.put, List.setIfInBounds_toArray, List.set_cons_zero, List.set_cons_succ, i64_w, i32_w]
        rfl
       refine pure_ (i := 14) (N := some 14) (v := ?_) (a' := ?_) #[true,true,true,true,true,true,true,true,true,true,true,true,true,true,true] rfl rfl (any_of HT_.out (by kernel_rfl)) (fun _ _ _ h => h) (Or.inl ⟨by rfl, ?_⟩) ?_ ?_
       rotate_left
       ·intro w'
        go_simp
        with_reducible rfl
       rotate_left
       ·simp only [Act.put, List.setIfInBounds_toArray, List.set_cons_zero, List.set_cons_succ, i64_w, i32_w]
        rfl
       refine done_ (done_of HT_.out (by kernel_rfl)) ?_
       try go_wp2
       go_roundg k1
       case measure => have := HK1.out;omega
       case rel => exact ⟨(x9_1), (x10_1), (wrap64 (x12_1 + 1)), (by first | rfl | (simp;done) | (simp [*];done)), (by first | rfl | (simp;done) | (simp [*];done)), H', ⟨by have := HK1.out;omega⟩, ⟨by (with_reducible repeat (first | apply Kd.N_alloc | apply Kd.N_drewN | apply Kd.N_drew));exact Kd.N_mono HO_9.out (fun _ hk => ⟨hk.1.1.1.1, ⟨hk.1.1.1.2.1, ⟨hk.1.1.1.2.2.1, hk.1.1.1.2.2.2⟩⟩⟩)⟩, ⟨by (with_reducible repeat (first | apply Kd.N_alloc | apply Kd.N_drewN | apply Kd.N_drew));exact Kd.N_mono HO_11.out (fun _ hk => ⟨hk.1.1.1.1, ⟨hk.1.1.1.2.1, ⟨hk.1.1.1.2.2.1, hk.1.1.1.2.2.2⟩⟩⟩)⟩, ⟨by exact kP BK229.out⟩, ⟨by exact kP BK230.out⟩, ⟨by exact bB⟩⟩
     ·rw [if_neg c34] at H
      exact absurd H (by simp)
    ·rw [if_neg c33] at H
     have c33b0 : decide (x12_1 < (t244.length : Int)) = false := decide_eq_false c33
     clear c33
     simp only [Option.some.injEq, Prod.mk.injEq] at H
     obtain ⟨rfl, rfl⟩ := H
     obtain ⟨Ao55, co55, eo55⟩ := Kd.N_slice HO_11.out
     subst eo55
     go_wp2
     go_ret2
     exact ⟨_, by first | rfl | (simp [errW_none, errW_some] <;> rfl) | (simp [*, errW_none, errW_some] <;> rfl), by (with_reducible repeat (first | apply Kd.N_alloc | apply Kd.N_drewN | apply Kd.N_drew));exact Kd.N_mono HO_9.out (fun _ hk => hk.1), by exact bB⟩




end Go.Proofs.Ytaddgielnfhhpaa.QBestFirePlan
