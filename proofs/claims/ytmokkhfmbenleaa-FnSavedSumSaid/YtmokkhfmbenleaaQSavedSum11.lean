import Derived.Test.YtmokkhfmbenleaaQSavedSum0
import Derived.Test.YtmokkhfmbenleaaQSavedSum1
import Derived.Test.YtmokkhfmbenleaaQSavedSum2
import Derived.Test.YtmokkhfmbenleaaQSavedSum3
import Derived.Test.YtmokkhfmbenleaaQSavedSum10
namespace Go.Proofs.Ytmokkhfmbenleaa.QSavedSum
open Go.RowKit Go.Proofs.YtmokkhfmbenleaaW.PrintWords Go.Proofs.YtmokkhfmbenleaaW.PrintLast Go.Proofs.YtmokkhfmbenleaaW.PrintMore
attribute [local go_sem] max2_int min2_int max_two min_two max_three min_three max_four min_four   -- for this text's walks alone
set_option linter.unusedVariables false
set_option linter.unusedSimpArgs false
/-! ### spec_l8Best: function 76 -/
mutual
def spec_l8Best.l0 : Nat → Int → List (List Int) → Int → List (List Int) → Int → Int → List (S119) → List Int → List Int → Option ((List (List Int)) × Int)
 | 0, _, _, _, _, _, _, _, _, _ => none
 | k + 1, x2, x9, x10, x11, x12, x688000, x688001, x689000, x689001 => if x12 < (x11.length : Int) then (if 0 ≤ x12 then ((spec_l8Round.f k x688000 x688001 x689000 x689001 (rd_L3 x11 x12)).bind fun bt706 => ((spec_l8Best.f k x688000 x688001 bt706.1 bt706.2 x2).bind fun bt712 => (if bt712.2 > x10 then ((some (([rd_L3 x11 x12] : List (List Int)) : List (List Int))).bind fun y717 => (if y717.length + bt712.1.length < 5864062014805 then (spec_l8Best.l0 k x2 (y717 ++ bt712.1) bt712.2 x11 (wrap64 (x12 + 1)) x688000 x688001 x689000 x689001) else (none))) else (spec_l8Best.l0 k x2 x9 x10 x11 (wrap64 (x12 + 1)) x688000 x688001 x689000 x689001)))) else (none)) else (some (x9, x10))
def spec_l8Best.f : Nat → Int → List (S119) → List Int → List Int → Int → Option ((List (List Int)) × Int)
 | 0, _, _, _, _, _ => none
 | k + 1, a0_0, l0_1, l1_0, l1_1, a2 => (spec_l8Next.f k a0_0 l0_1 l1_0 l1_1).bind fun t689 => (if (t689.length : Int) = 0 then (some ((([] : List (List Int))), wrap64 (a0_0 - (l1_0.length : Int)))) else ((spec_l8Free.f k a0_0 l0_1 l1_0 l1_1).bind fun t695 => ((spec_l1Least.f a2 (t695.length : Int)).bind fun t701 => ((spec_l8Choices.f k t695 t701).bind fun t702 => (spec_l8Best.l0 k a2 (([] : List (List Int))) (-1) t702 0 a0_0 l0_1 l1_0 l1_1)))))
end
theorem spec_l8Best.mono_l : ∀ k, (∀ y0 y1 y2 y3 y4, LeO (spec_l8Best.f k y0 y1 y2 y3 y4) (spec_l8Best.f (k + 1) y0 y1 y2 y3 y4)) ∧ (∀ y0 y1 y2 y3 y4 y5 y6 y7 y8, LeO (spec_l8Best.l0 k y0 y1 y2 y3 y4 y5 y6 y7 y8) (spec_l8Best.l0 (k + 1) y0 y1 y2 y3 y4 y5 y6 y7 y8))
 | 0 => ⟨fun _ _ _ _ _ r h => by simp [spec_l8Best.f] at h, fun _ _ _ _ _ _ _ _ _ r h => by simp [spec_l8Best.l0] at h⟩
 | k + 1 => by
  obtain ⟨ih0, ih1⟩ := spec_l8Best.mono_l k
  refine ⟨?_, ?_⟩
  ·intro y0 y1 y2 y3 y4
   unfold spec_l8Best.f
   repeat' first
   | (with_reducible exact ih0 _ _ _ _ _)
   | (with_reducible exact ih1 _ _ _ _ _ _ _ _ _)
   | (with_reducible exact spec_l8Choices.mono _ _ _)
   | (with_reducible exact spec_l8Free.mono _ _ _ _ _)
   | (with_reducible exact spec_l8Next.mono _ _ _ _ _)
   | (with_reducible exact spec_l8Round.mono _ _ _ _ _ _)
   | (with_reducible exact LeO.refl _)
   | (with_reducible exact LeO.none _)
   | (with_reducible refine LeO.ite ?_ ?_)
   | (with_reducible refine LeO.bind ?_ (fun _ => ?_))
   | exact ih0 _ _ _ _ _
   | exact ih1 _ _ _ _ _ _ _ _ _
   | exact spec_l8Choices.mono _ _ _
   | exact spec_l8Free.mono _ _ _ _ _
   | exact spec_l8Next.mono _ _ _ _ _
   | exact spec_l8Round.mono _ _ _ _ _ _
   | exact LeO.none _
   | refine LeO.ite ?_ ?_
   | refine LeO.bind ?_ (fun _ => ?_)
  ·intro y0 y1 y2 y3 y4 y5 y6 y7 y8
   unfold spec_l8Best.l0
   repeat' first
   | (with_reducible exact ih0 _ _ _ _ _)
   | (with_reducible exact ih1 _ _ _ _ _ _ _ _ _)
   | (with_reducible exact spec_l8Choices.mono _ _ _)
   | (with_reducible exact spec_l8Free.mono _ _ _ _ _)
   | (with_reducible exact spec_l8Next.mono _ _ _ _ _)
   | (with_reducible exact spec_l8Round.mono _ _ _ _ _ _)
   | (with_reducible exact LeO.refl _)
   | (with_reducible exact LeO.none _)
   | (with_reducible refine LeO.ite ?_ ?_)
   | (with_reducible refine LeO.bind ?_ (fun _ => ?_))
   | exact ih0 _ _ _ _ _
   | exact ih1 _ _ _ _ _ _ _ _ _
   | exact spec_l8Choices.mono _ _ _
   | exact spec_l8Free.mono _ _ _ _ _
   | exact spec_l8Next.mono _ _ _ _ _
   | exact spec_l8Round.mono _ _ _ _ _ _
   | exact LeO.none _
   | refine LeO.ite ?_ ?_
   | refine LeO.bind ?_ (fun _ => ?_)
theorem spec_l8Best.mono : ∀ a0 a1 a2 a3 a4 k, LeO (spec_l8Best.f k a0 a1 a2 a3 a4) (spec_l8Best.f (k + 1) a0 a1 a2 a3 a4) := by
 intro a0 a1 a2 a3 a4 k
 obtain ⟨ih0, ih1⟩ := spec_l8Best.mono_l k
 exact ih0 a0 a1 a2 a3 a4
def spec_l8Best.T2 : Bool × List (List Nat × List Nat) := (true, [([], []), ([], []), ([1], [1]), ([], []), ([3], [3]), ([4], [4]), ([2, 5], [2, 5]), ([0, 0], [0]), ([6, 7, 0, 1, 2, 3, 4, 5, 6, 7], [6])])
def spec_l8Best.B2 : List Nat := [0, 0, 2, 0, 8, 24, 62, 1, 255]
theorem spec_l8Best.tab2 : rtab .any (opsOf Try.f76 2) = spec_l8Best.T2 := by kernel_rfl
theorem spec_l8Best.bits2 : waitsOk spec_l8Best.T2.2 spec_l8Best.B2 = true := by kernel_rfl
def spec_l8Best.T8 : Bool × List (List Nat × List Nat) := (true, [([], []), ([], []), ([], []), ([], []), ([], []), ([3, 4], [3, 4]), ([5], [5]), ([1, 2, 6], [1, 2, 6]), ([], []), ([0, 7, 8, 7], [0, 7, 8]), ([9], [9]), ([10], [10]), ([10], [10]), ([11, 9, 0, 1, 2, 3, 4, 5, 6, 7, 8, 9, 10, 11], [11]), ([12, 13, 0, 1, 2, 3, 4, 5, 6, 7, 8, 9, 10, 11, 12, 13], [12])])
def spec_l8Best.B8 : List Nat := [0, 0, 0, 0, 0, 24, 56, 126, 0, 511, 1023, 2047, 2047, 4095, 16383]
theorem spec_l8Best.tab8 : rtab .any (opsOf Try.f76 8) = spec_l8Best.T8 := by kernel_rfl
theorem spec_l8Best.bits8 : waitsOk spec_l8Best.T8.2 spec_l8Best.B8 = true := by kernel_rfl
set_option maxHeartbeats 8000000 in
set_option maxRecDepth 100000 in
theorem spec_l8Best.calls (k : Nat) : ∀ (a0_0 : Int) (A0_1 : Option Addr) (c0_1 : Nat) (l0_1 : List (S119)) (A1_0 : Option Addr) (c1_0 : Nat) (l1_0 : List Int) (A1_1 : Option Addr) (c1_1 : Nat) (l1_1 : List Int) (a2 : Int) (r1 : List (List Int)) (r2 : Int) (w : World) (hr0_1 : Kd.C k119 w A0_1 l0_1.length l0_1) (hc0_1 : l0_1.length ≤ c0_1) (hr1_0 : Kd.C (Kd.int .i64) w A1_0 l1_0.length l1_0) (hc1_0 : l1_0.length ≤ c1_0) (hr1_1 : Kd.C (Kd.int .i64) w A1_1 l1_1.length l1_1) (hc1_1 : l1_1.length ≤ c1_1) (h : spec_l8Best.f k a0_0 l0_1 l1_0 l1_1 a2 = some (r1, r2)),
  Calls Try.prog 76 #[.agg #[.int .i64 a0_0, .slice A0_1 l0_1.length c0_1], .agg #[.slice A1_0 l1_0.length c1_0, .slice A1_1 l1_1.length c1_1], .int .i64 a2] w fun e w' => ∃ v0_ : Value, e = .returned (.tuple #[v0_, .int .i64 r2]) ∧ Kd.N (Kd.slice 3 (Kd.int .i64)) 28 w' w.heap.size (fun k_ => (w.heap.size ≤ k_)) v0_ r1 ∧ Below w.heap.size w w' := by
 induction k using Nat.strongRecOn with
 | _ k ih =>
 intro a0_0 A0_1 c0_1 l0_1 A1_0 c1_0 l1_0 A1_1 c1_1 l1_1 a2 r1 r2 w hr0_1 hc0_1 hr1_0 hc1_0 hr1_1 hc1_1 h
 cases k with
 | zero => exact absurd h (by simp [spec_l8Best.f])
 | succ k =>
 simp only [spec_l8Best.f] at h
 have hu31 := Try.underlying31
 have hu71 := Try.underlying71
 have HR0_1 := Aside0.mk hr0_1
 have HC0_1 := Aside0.mk hc0_1
 clear hr0_1 hc0_1
 have HR1_0 := Aside0.mk hr1_0
 have HC1_0 := Aside0.mk hc1_0
 clear hr1_0 hc1_0
 have HR1_1 := Aside0.mk hr1_1
 have HC1_1 := Aside0.mk hc1_1
 clear hr1_1 hc1_1
 have HB := aM (Below.refl w.heap.size w)
 have H : ((spec_l8Next.f k a0_0 l0_1 l1_0 l1_1).bind fun t689 => (if (t689.length : Int) = 0 then (some ((([] : List (List Int))), wrap64 (a0_0 - (l1_0.length : Int)))) else ((spec_l8Free.f k a0_0 l0_1 l1_0 l1_1).bind fun t695 => ((spec_l1Least.f a2 (t695.length : Int)).bind fun t701 => ((spec_l8Choices.f k t695 t701).bind fun t702 => (spec_l8Best.l0 k a2 (([] : List (List Int))) (-1) t702 0 a0_0 l0_1 l1_0 l1_1)))))) = some (r1, r2) := h
 clear h
 replace H := Option.bind_eq_some_iff.mp H
 obtain ⟨t689, A40, H⟩ := H
 replace H : (if (t689.length : Int) = 0 then (some ((([] : List (List Int))), wrap64 (a0_0 - (l1_0.length : Int)))) else ((spec_l8Free.f k a0_0 l0_1 l1_0 l1_1).bind fun t695 => ((spec_l1Least.f a2 (t695.length : Int)).bind fun t701 => ((spec_l8Choices.f k t695 t701).bind fun t702 => (spec_l8Best.l0 k a2 (([] : List (List Int))) (-1) t702 0 a0_0 l0_1 l1_0 l1_1))))) = some (r1, r2) := H
 have A4 := Aside0.mk A40
 clear A40
 by_cases c5 : (t689.length : Int) = 0
 ·rw [if_pos c5] at H
  have c5b0 : ((t689.length : Int) == 0) = true := beq_iff_eq.mpr c5
  have c5b1 : ((t689.length : Int) != 0) = false := bne_eq_false_iff_eq.mpr c5
  clear c5
  obtain ⟨y692, hy692⟩ : ∃ y_ : List (List Int), y_ = (([] : List (List Int))) := ⟨_, rfl⟩
  replace H : (some (y692, wrap64 (a0_0 - (l1_0.length : Int)))) = some (r1, r2) := by first | (rw [hy692];with_reducible exact H) | (have H2_ := (Option.bind_some _ _).symm.trans H;rw [hy692];with_reducible exact H2_) | (have H2_ := (Option.bind_some _ _).symm.trans H;with_reducible exact H2_) | with_reducible exact H | (rw [hy692];exact H) | exact H
  have Ny692 := Aside0.mk hy692
  clear hy692
  simp only [Option.some.injEq, Prod.mk.injEq] at H
  obtain ⟨rfl, rfl⟩ := H
  go_enter Try.func76, Try.ntmps76
  try go_wp2_with (first | ((with_reducible refine gate_dst (N := 3) rfl ?_);refine box_event ?hg (N := 3) ?hd (cs := #[.int .i64 a0_0, .slice A0_1 l0_1.length c0_1]) (t := 31) ?hr ?_;(case hd => rfl);(case hg => rfl);(case hr => first | (go_simp;done) | (go_simp;rfl));intro gb687 hg w6 hbox hb;have n0_ := aM (below_step (by exact bB) hb);have n1_ := aM (hbox);have n2_ := aM ((by rw [hg];exact (below_size (by exact bB)) : w.heap.size ≤ gb687));have n3_ := aM ((by rw [hg];exact (below_size (by exact bB)) : w.heap.size ≤ gb687));clear HB;have HB := n0_;have BK687 := n1_;have GW687 := n2_;have GE687 := n3_;clear n0_ n1_ n2_ n3_;clear hb hbox hg) | ((with_reducible refine gate_dst (N := 4) rfl ?_);refine box_event ?hg (N := 4) ?hd (cs := #[.slice A1_0 l1_0.length c1_0, .slice A1_1 l1_1.length c1_1]) (t := 71) ?hr ?_;(case hd => rfl);(case hg => rfl);(case hr => first | (go_simp;done) | (go_simp;rfl));intro gb688 hg w7 hbox hb;have n0_ := aM (blk_below (g := gb687) (o := .cells #[.int .i64 a0_0, .slice A0_1 l0_1.length c0_1] 31 (0, 0)) (by exact kP BK687.out) hb);have n1_ := aM (below_step (by exact bB) hb);have n2_ := aM (hbox);have n3_ := aM ((by rw [hg];exact (below_size (by exact bB)) : w.heap.size ≤ gb688));have n4_ := aM ((by rw [hg];exact (below_size (by exact bB)) : w.heap.size ≤ gb688));have n5_ := aM ((by rw [hg];exact Nat.ne_of_lt (blk_lt (g := gb687) (o := .cells #[.int .i64 a0_0, .slice A0_1 l0_1.length c0_1] 31 (0, 0)) (by exact kP BK687.out)) : gb687 ≠ gb688));have n6_ := aM ((by rw [hg];exact Nat.ne_of_gt (blk_lt (g := gb687) (o := .cells #[.int .i64 a0_0, .slice A0_1 l0_1.length c0_1] 31 (0, 0)) (by exact kP BK687.out)) : gb688 ≠ gb687));clear BK687;clear HB;have BK687 := n0_;have HB := n1_;have BK688 := n2_;have GW688 := n3_;have GE688 := n4_;have NB687_688 := n5_;have NB688_687 := n6_;clear n0_ n1_ n2_ n3_ n4_ n5_ n6_;clear hb hbox hg;have hnb8 := NB687_688.out;have hnc8 := NB688_687.out;have hcz9_0 : w7.cell? ⟨gb687, 0, none⟩ = some (.int .i64 a0_0) := (blk_cell BK687.out 0).trans rfl;have hcz9_1 : w7.cell? ⟨gb687, 1, none⟩ = some (.slice A0_1 l0_1.length c0_1) := (blk_cell BK687.out 1).trans rfl;have hfz9_0 := blk_frozen BK687.out 0;have hfz9_1 := blk_frozen BK687.out 1;have hcz10_0 : w7.cell? ⟨gb688, 0, none⟩ = some (.slice A1_0 l1_0.length c1_0) := (blk_cell BK688.out 0).trans rfl;have hcz10_1 : w7.cell? ⟨gb688, 1, none⟩ = some (.slice A1_1 l1_1.length c1_1) := (blk_cell BK688.out 1).trans rfl;have hfz10_0 := blk_frozen BK688.out 0;have hfz10_1 := blk_frozen BK688.out 1) | ((with_reducible refine gate_callee (f := 119) rfl ?_);refine goesL_ (some 17) rfl rfl Try.func119 (by kernel_rfl) rfl #[.agg #[.int .i64 a0_0, .slice A0_1 l0_1.length c0_1], .agg #[.slice A1_0 l1_0.length c1_0, .slice A1_1 l1_1.length c1_1]] rfl mM ?_;(with_reducible refine (spec_l8Next.calls k a0_0 _ _ l0_1 _ _ l1_0 _ _ l1_1 t689 _ ?side1 ?side2 ?side3 ?side4 ?side5 ?side6 A4.out).mono ?_);(case side1 => exact cP (Kd.C_below HR0_1.out HB.out));(case side2 => exact HC0_1.out);(case side3 => exact cP (Kd.C_below HR1_0.out HB.out));(case side4 => exact HC1_0.out);(case side5 => exact cP (Kd.C_below HR1_1.out HB.out));(case side6 => exact HC1_1.out);rintro e w11 ⟨v690, rfl, ho0, hb⟩;refine ⟨_, rfl, ?_⟩;have n0_ := aM (Kd.R_lower (Kd.R_newM (M := fun k_ => (w.heap.size ≤ k_)) ho0 (below_size (by exact bB)) (fun k_ h_ => h_)) (below_size (by exact bB)));have n1_ := aM (blk_below (g := gb687) (o := .cells #[.int .i64 a0_0, .slice A0_1 l0_1.length c0_1] 31 (0, 0)) (by exact kP BK687.out) hb);have n2_ := aM (blk_below (g := gb688) (o := .cells #[.slice A1_0 l1_0.length c1_0, .slice A1_1 l1_1.length c1_1] 71 (0, 0)) (by exact kP BK688.out) hb);have n3_ := aM (below_step (by exact bB) hb);clear BK687;clear BK688;clear HB;have HO691 := n0_;have BK687 := n1_;have BK688 := n2_;have HB := n3_;clear n0_ n1_ n2_ n3_;(try clear hb);(try clear hb2);(try clear hk);(try clear hi);(try clear ho0);obtain ⟨Ao12, co12, eo12⟩ := Kd.R_slice HO691.out;subst eo12))
  have n0_ := aM (Kd.R_drew HO691.out)
  have n1_ := aM (blk_drew BK687.out)
  have n2_ := aM (blk_drew BK688.out)
  have n3_ := aM (below_drew1 HB.out)
  clear HO691
  clear BK687
  clear BK688
  clear HB
  have HO691 := n0_
  have BK687 := n1_
  have BK688 := n2_
  have HB := n3_
  clear n0_ n1_ n2_ n3_
  refine start_ (n := 9) (S := fun w' => w'.cell? ⟨gb687, 0, none⟩ = some (.int .i64 a0_0) ∧ w'.cell? ⟨gb687, 1, none⟩ = some (.slice A0_1 l0_1.length c0_1) ∧ w'.cell? ⟨gb688, 0, none⟩ = some (.slice A1_0 l1_0.length c1_0) ∧ w'.cell? ⟨gb688, 1, none⟩ = some (.slice A1_1 l1_1.length c1_1)) (ds := []) #[false,false,false,false,false,false,false,false,false] (by kernel_rfl) rfl rfl ⟨(blk_cell BK687.out 0).trans rfl, (blk_cell BK687.out 1).trans rfl, (blk_cell BK688.out 0).trans rfl, (blk_cell BK688.out 1).trans rfl⟩ (fun hHeld => ?_);refine with_tabW spec_l8Best.tab2 spec_l8Best.bits2 (fun HT_ HW_ => ?_)
  generalize w11.drew = w13 at HO691 BK687 BK688 HB hHeld ⊢
  refine pure_ (i := 1) (N := some 21) (v := ?_) (a' := ?_) #[false,true,false,false,false,false,false,false,false] rfl rfl (any_of HT_.out (by kernel_rfl)) (fun _ _ _ h => h) (Or.inl ⟨by rfl, ?_⟩) ?_ ?_
  rotate_left
  ·intro w'
   go_simp
   with_reducible rfl
  rotate_left
  ·exact aP
  refine pure_ (i := 3) (N := some 23) (v := ?_) (a' := ?_) #[false,true,false,true,false,false,false,false,false] rfl rfl (any_of HT_.out (by kernel_rfl)) (fun _ _ _ h => h) (Or.inl ⟨by rfl, ?_⟩) ?_ ?_
  rotate_left
  ·intro w'
   go_simp
   with_reducible rfl
  rotate_left
  ·exact aP
  refine take_ (i := 2) (N := some 22) (v := ?_) (a' := ?_) #[false,true,true,true,false,false,false,false,false] rfl rfl (take_ofW HT_.out HW_.out (by kernel_rfl)) (fun _ _ _ h => h) (Or.inl ⟨by rfl, ?_⟩) hHeld ?_ ?_
  rotate_left
  ·rintro w' ⟨s0, s1, s2, s3⟩
   go_simp
   with_reducible rfl
  rotate_left
  ·exact aP
  refine take_ (i := 4) (N := some 24) (v := ?_) (a' := ?_) #[false,true,true,true,true,false,false,false,false] rfl rfl (take_ofW HT_.out HW_.out (by kernel_rfl)) (fun _ _ _ h => h) (Or.inl ⟨by rfl, ?_⟩) hHeld ?_ ?_
  rotate_left
  ·rintro w' ⟨s0, s1, s2, s3⟩
   go_simp
   with_reducible rfl
  rotate_left
  ·exact aP
  refine pure_ (i := 5) (N := some 25) (v := ?_) (a' := ?_) #[false,true,true,true,true,true,false,false,false] rfl rfl (any_of HT_.out (by kernel_rfl)) (fun _ _ _ h => h) (Or.inl ⟨by rfl, ?_⟩) ?_ ?_
  rotate_left
  ·intro w'
   go_simp
   with_reducible rfl
  rotate_left
  ·exact aP
  refine pure_ (i := 6) (N := some 26) (v := ?_) (a' := ?_) #[false,true,true,true,true,true,true,false,false] rfl rfl (any_of HT_.out (by kernel_rfl)) (fun _ _ _ h => h) (Or.inl ⟨by rfl, ?_⟩) ?_ ?_
  rotate_left
  ·intro w'
   go_simp
   with_reducible rfl
  rotate_left
  ·exact aP
  refine one_ (i := 0) (N := some 20) #[true,true,true,true,true,true,true,false,false] rfl rfl (one_of HT_.out (by kernel_rfl)) (by decide) (fun K hK => ?_)
  refine Kd.N_lit_step (Kd.slice 3 (Kd.int .i64)) _ 28 ?hg (N' := 20) ?hd (xs := ([] : List (List Int))) (inner := []) (ok := (fun k_ => (w.heap.size ≤ k_) ∧ some k_ ≠ (.slice Ao12 t689.length co12 : Value).ownBlock ∧ k_ ≠ gb687 ∧ k_ ≠ gb688)) (okp := (fun k_ => (w.heap.size ≤ k_) ∧ some k_ ≠ (.slice Ao12 t689.length co12 : Value).ownBlock ∧ k_ ≠ gb687 ∧ k_ ≠ gb688)) ?hr ?hp (fun _ hk => hk) ((show ∀ k_, w13.heap.size ≤ k_ → (fun k_ => (w.heap.size ≤ k_) ∧ some k_ ≠ (.slice Ao12 t689.length co12 : Value).ownBlock ∧ k_ ≠ gb687 ∧ k_ ≠ gb688) k_ from fun k_ hk => ⟨(Nat.le_trans (below_size (by exact bB)) hk), Kd.fresh' (Kd.R_lt (by exact rP HO691.out)) k_ hk, Kd.freshB (g := gb687) (o := .cells #[.int .i64 a0_0, .slice A0_1 l0_1.length c0_1] 31 (0, 0)) (by exact kP BK687.out) k_ hk, Kd.freshB (g := gb688) (o := .cells #[.slice A1_0 l1_0.length c1_0, .slice A1_1 l1_1.length c1_1] 71 (0, 0)) (by exact kP BK688.out) k_ hk⟩) _ (Nat.le_refl _)) (Below.refl _ _) (Nat.le_refl _) (by simp) ?_;(case hd => rfl);(case hg => rfl);(case hr => first | (go_simp;done) | (go_simp;rfl));(case hp => exact (Reps.none _ _))
  intro v693 w14 ho15 hb hg_ hnew_
  clear hg_ hnew_
  (first | rw [← Ny692.out] at ho15 | (simp only [Int.reduceToNat] at ho15;rw [← Ny692.out] at ho15))
  have n0_ := aM (Kd.R_below (by exact rP HO691.out) hb)
  have n1_ := aM (Kd.N_lower ho15 (below_size (by exact bB)))
  have n2_ := aM (blk_below (g := gb687) (o := .cells #[.int .i64 a0_0, .slice A0_1 l0_1.length c0_1] 31 (0, 0)) (by exact kP BK687.out) hb)
  have n3_ := aM (blk_below (g := gb688) (o := .cells #[.slice A1_0 l1_0.length c1_0, .slice A1_1 l1_1.length c1_1] 71 (0, 0)) (by exact kP BK688.out) hb)
  have n4_ := aM (below_step (by exact bB) hb)
  clear HO691
  clear BK687
  clear BK688
  clear HB
  have HO691 := n0_
  have HO694 := n1_
  have BK687 := n2_
  have BK688 := n3_
  have HB := n4_
  clear n0_ n1_ n2_ n3_ n4_
  clear hb ho15
  refine hK.out _ _ ⟨(blk_cell BK687.out 0).trans rfl, (blk_cell BK687.out 1).trans rfl, (blk_cell BK688.out 0).trans rfl, (blk_cell BK688.out 1).trans rfl⟩ (fun hHeld => ?_)
  clear hK K
  refine norm_ (a' := ?_) ?_ ?_
  rotate_left
  ·show Act.put _ (some 20) _ = _
   simp only [Act.put, List.setIfInBounds_toArray, List.set_cons_zero, List.set_cons_succ, i64_w, i32_w]
   rfl
  refine pure_ (i := 7) (N := some 6) (v := ?_) (a' := ?_) #[true,true,true,true,true,true,true,true,false] rfl rfl (any_of HT_.out (by kernel_rfl)) (fun _ _ _ h => h) (Or.inl ⟨by rfl, ?_⟩) ?_ ?_
  rotate_left
  ·intro w'
   go_simp
   with_reducible rfl
  rotate_left
  ·exact aP
  refine pure_ (i := 8) (N := some 7) (v := ?_) (a' := ?_) #[true,true,true,true,true,true,true,true,true] rfl rfl (any_of HT_.out (by kernel_rfl)) (fun _ _ _ h => h) (Or.inl ⟨by rfl, ?_⟩) ?_ ?_
  rotate_left
  ·intro w'
   go_simp
   with_reducible rfl
  rotate_left
  ·exact aP
  refine done_ (done_of HT_.out (by kernel_rfl)) ?_
  try go_wp2
  go_ret2
  exact ⟨_, by first | rfl | (simp [errW_none, errW_some] <;> rfl) | (simp [*, errW_none, errW_some] <;> rfl), by (with_reducible repeat (first | apply Kd.N_alloc | apply Kd.N_drewN | apply Kd.N_drew));exact Kd.N_mono HO694.out (fun _ hk => hk.1), by exact bB⟩
 rw [if_neg c5] at H
 have c5b0 : ((t689.length : Int) == 0) = false := beq_eq_false_iff_ne.mpr c5
 have c5b1 : ((t689.length : Int) != 0) = true := bne_iff_ne.mpr c5
 have c5b2 : ¬ (t689 = []) := fun h_ => c5 (by rw [h_];rfl)
 replace H := Option.bind_eq_some_iff.mp H
 obtain ⟨t695, A160, H⟩ := H
 replace H : ((spec_l1Least.f a2 (t695.length : Int)).bind fun t701 => ((spec_l8Choices.f k t695 t701).bind fun t702 => (spec_l8Best.l0 k a2 (([] : List (List Int))) (-1) t702 0 a0_0 l0_1 l1_0 l1_1))) = some (r1, r2) := H
 have A16 := Aside0.mk A160
 clear A160
 obtain ⟨y698, hy698⟩ : ∃ y_ : List (List Int), y_ = (([] : List (List Int))) := ⟨_, rfl⟩
 replace H : ((spec_l1Least.f a2 (t695.length : Int)).bind fun t701 => ((spec_l8Choices.f k t695 t701).bind fun t702 => (spec_l8Best.l0 k a2 y698 (-1) t702 0 a0_0 l0_1 l1_0 l1_1))) = some (r1, r2) := by first | (rw [hy698];with_reducible exact H) | (have H2_ := (Option.bind_some _ _).symm.trans H;rw [hy698];with_reducible exact H2_) | (have H2_ := (Option.bind_some _ _).symm.trans H;with_reducible exact H2_) | with_reducible exact H | (rw [hy698];exact H) | exact H
 have Ny698 := Aside0.mk hy698
 clear hy698
 replace H := Option.bind_eq_some_iff.mp H
 obtain ⟨t701, A170, H⟩ := H
 replace H : ((spec_l8Choices.f k t695 t701).bind fun t702 => (spec_l8Best.l0 k a2 y698 (-1) t702 0 a0_0 l0_1 l1_0 l1_1)) = some (r1, r2) := H
 have A17 := Aside0.mk A170
 clear A170
 replace H := Option.bind_eq_some_iff.mp H
 obtain ⟨t702, A180, H⟩ := H
 replace H : (spec_l8Best.l0 k a2 y698 (-1) t702 0 a0_0 l0_1 l1_0 l1_1) = some (r1, r2) := H
 have A18 := Aside0.mk A180
 clear A180
 have H' := Aside0.mk H
 clear H
 go_enter Try.func76, Try.ntmps76
 go_wp2_with (first | ((with_reducible refine gate_dst (N := 3) rfl ?_);refine box_event ?hg (N := 3) ?hd (cs := #[.int .i64 a0_0, .slice A0_1 l0_1.length c0_1]) (t := 31) ?hr ?_;(case hd => rfl);(case hg => rfl);(case hr => first | (go_simp;done) | (go_simp;rfl));intro gb687 hg w19 hbox hb;have n0_ := aM (below_step (by exact bB) hb);have n1_ := aM (hbox);have n2_ := aM ((by rw [hg];exact (below_size (by exact bB)) : w.heap.size ≤ gb687));have n3_ := aM ((by rw [hg];exact (below_size (by exact bB)) : w.heap.size ≤ gb687));clear HB;have HB := n0_;have BK687 := n1_;have GW687 := n2_;have GE687 := n3_;clear n0_ n1_ n2_ n3_;clear hb hbox hg) | ((with_reducible refine gate_dst (N := 4) rfl ?_);refine box_event ?hg (N := 4) ?hd (cs := #[.slice A1_0 l1_0.length c1_0, .slice A1_1 l1_1.length c1_1]) (t := 71) ?hr ?_;(case hd => rfl);(case hg => rfl);(case hr => first | (go_simp;done) | (go_simp;rfl));intro gb688 hg w20 hbox hb;have n0_ := aM (blk_below (g := gb687) (o := .cells #[.int .i64 a0_0, .slice A0_1 l0_1.length c0_1] 31 (0, 0)) (by exact kP BK687.out) hb);have n1_ := aM (below_step (by exact bB) hb);have n2_ := aM (hbox);have n3_ := aM ((by rw [hg];exact (below_size (by exact bB)) : w.heap.size ≤ gb688));have n4_ := aM ((by rw [hg];exact (below_size (by exact bB)) : w.heap.size ≤ gb688));have n5_ := aM ((by rw [hg];exact Nat.ne_of_lt (blk_lt (g := gb687) (o := .cells #[.int .i64 a0_0, .slice A0_1 l0_1.length c0_1] 31 (0, 0)) (by exact kP BK687.out)) : gb687 ≠ gb688));have n6_ := aM ((by rw [hg];exact Nat.ne_of_gt (blk_lt (g := gb687) (o := .cells #[.int .i64 a0_0, .slice A0_1 l0_1.length c0_1] 31 (0, 0)) (by exact kP BK687.out)) : gb688 ≠ gb687));clear BK687;clear HB;have BK687 := n0_;have HB := n1_;have BK688 := n2_;have GW688 := n3_;have GE688 := n4_;have NB687_688 := n5_;have NB688_687 := n6_;clear n0_ n1_ n2_ n3_ n4_ n5_ n6_;clear hb hbox hg;have hnb21 := NB687_688.out;have hnc21 := NB688_687.out;have hcz22_0 : w20.cell? ⟨gb687, 0, none⟩ = some (.int .i64 a0_0) := (blk_cell BK687.out 0).trans rfl;have hcz22_1 : w20.cell? ⟨gb687, 1, none⟩ = some (.slice A0_1 l0_1.length c0_1) := (blk_cell BK687.out 1).trans rfl;have hfz22_0 := blk_frozen BK687.out 0;have hfz22_1 := blk_frozen BK687.out 1;have hcz23_0 : w20.cell? ⟨gb688, 0, none⟩ = some (.slice A1_0 l1_0.length c1_0) := (blk_cell BK688.out 0).trans rfl;have hcz23_1 : w20.cell? ⟨gb688, 1, none⟩ = some (.slice A1_1 l1_1.length c1_1) := (blk_cell BK688.out 1).trans rfl;have hfz23_0 := blk_frozen BK688.out 0;have hfz23_1 := blk_frozen BK688.out 1) | ((with_reducible refine gate_callee (f := 119) rfl ?_);refine goesL_ (some 17) rfl rfl Try.func119 (by kernel_rfl) rfl #[.agg #[.int .i64 a0_0, .slice A0_1 l0_1.length c0_1], .agg #[.slice A1_0 l1_0.length c1_0, .slice A1_1 l1_1.length c1_1]] rfl mM ?_;(with_reducible refine (spec_l8Next.calls k a0_0 _ _ l0_1 _ _ l1_0 _ _ l1_1 t689 _ ?side1 ?side2 ?side3 ?side4 ?side5 ?side6 A4.out).mono ?_);(case side1 => exact cP (Kd.C_below HR0_1.out HB.out));(case side2 => exact HC0_1.out);(case side3 => exact cP (Kd.C_below HR1_0.out HB.out));(case side4 => exact HC1_0.out);(case side5 => exact cP (Kd.C_below HR1_1.out HB.out));(case side6 => exact HC1_1.out);rintro e w24 ⟨v690, rfl, ho0, hb⟩;refine ⟨_, rfl, ?_⟩;have n0_ := aM (Kd.R_lower (Kd.R_newM (M := fun k_ => (w.heap.size ≤ k_)) ho0 (below_size (by exact bB)) (fun k_ h_ => h_)) (below_size (by exact bB)));have n1_ := aM (blk_below (g := gb687) (o := .cells #[.int .i64 a0_0, .slice A0_1 l0_1.length c0_1] 31 (0, 0)) (by exact kP BK687.out) hb);have n2_ := aM (blk_below (g := gb688) (o := .cells #[.slice A1_0 l1_0.length c1_0, .slice A1_1 l1_1.length c1_1] 71 (0, 0)) (by exact kP BK688.out) hb);have n3_ := aM (below_step (by exact bB) hb);clear BK687;clear BK688;clear HB;have HO691 := n0_;have BK687 := n1_;have BK688 := n2_;have HB := n3_;clear n0_ n1_ n2_ n3_;(try clear hb);(try clear hb2);(try clear hk);(try clear hi);(try clear ho0);obtain ⟨Ao25, co25, eo25⟩ := Kd.R_slice HO691.out;subst eo25;have hcz26_0 : w24.cell? ⟨gb687, 0, none⟩ = some (.int .i64 a0_0) := (blk_cell BK687.out 0).trans rfl;have hcz26_1 : w24.cell? ⟨gb687, 1, none⟩ = some (.slice A0_1 l0_1.length c0_1) := (blk_cell BK687.out 1).trans rfl;have hfz26_0 := blk_frozen BK687.out 0;have hfz26_1 := blk_frozen BK687.out 1;have hcz27_0 : w24.cell? ⟨gb688, 0, none⟩ = some (.slice A1_0 l1_0.length c1_0) := (blk_cell BK688.out 0).trans rfl;have hcz27_1 : w24.cell? ⟨gb688, 1, none⟩ = some (.slice A1_1 l1_1.length c1_1) := (blk_cell BK688.out 1).trans rfl;have hfz27_0 := blk_frozen BK688.out 0;have hfz27_1 := blk_frozen BK688.out 1) | ((with_reducible refine gate_callee (f := 124) rfl ?_);refine goesL_ (some 29) rfl rfl Try.func124 (by kernel_rfl) rfl #[.agg #[.int .i64 a0_0, .slice A0_1 l0_1.length c0_1], .agg #[.slice A1_0 l1_0.length c1_0, .slice A1_1 l1_1.length c1_1]] rfl mM ?_;(with_reducible refine (spec_l8Free.calls k a0_0 _ _ l0_1 _ _ l1_0 _ _ l1_1 t695 _ ?side1 ?side2 ?side3 ?side4 ?side5 ?side6 A16.out).mono ?_);(case side1 => exact cP (Kd.C_below HR0_1.out HB.out));(case side2 => exact HC0_1.out);(case side3 => exact cP (Kd.C_below HR1_0.out HB.out));(case side4 => exact HC1_0.out);(case side5 => exact cP (Kd.C_below HR1_1.out HB.out));(case side6 => exact HC1_1.out);rintro e w28 ⟨v696, rfl, ho0, hb⟩;refine ⟨_, rfl, ?_⟩;have n0_ := aM (Kd.R_elder' (by exact rP HO691.out) (Kd.R_base ho0) hb);have n1_ := aM (Kd.R_lower (Kd.R_new' (Kd.R_newM (M := fun k_ => (w.heap.size ≤ k_)) ho0 (below_size (by exact bB)) (fun k_ h_ => h_)) (Kd.R_lt (by exact rP HO691.out))) (below_size (by exact bB)));have n2_ := aM (blk_below (g := gb687) (o := .cells #[.int .i64 a0_0, .slice A0_1 l0_1.length c0_1] 31 (0, 0)) (by exact kP BK687.out) hb);have n3_ := aM (blk_below (g := gb688) (o := .cells #[.slice A1_0 l1_0.length c1_0, .slice A1_1 l1_1.length c1_1] 71 (0, 0)) (by exact kP BK688.out) hb);have n4_ := aM (below_step (by exact bB) hb);clear HO691;clear BK687;clear BK688;clear HB;have HO691 := n0_;have HO697 := n1_;have BK687 := n2_;have BK688 := n3_;have HB := n4_;clear n0_ n1_ n2_ n3_ n4_;(try clear hb);(try clear hb2);(try clear hk);(try clear hi);(try clear ho0)) | ((with_reducible refine gate_dst (N := 30) rfl ?_);refine Kd.N_lit (Kd.slice 3 (Kd.int .i64)) _ 28 ?hg (N' := 30) ?hd (xs := ([] : List (List Int))) (inner := []) (ok := (fun k_ => (w.heap.size ≤ k_) ∧ some k_ ≠ (.slice Ao25 t689.length co25 : Value).ownBlock ∧ some k_ ≠ (v696 : Value).ownBlock ∧ k_ ≠ gb687 ∧ k_ ≠ gb688)) (okp := (fun k_ => (w.heap.size ≤ k_) ∧ some k_ ≠ (.slice Ao25 t689.length co25 : Value).ownBlock ∧ some k_ ≠ (v696 : Value).ownBlock ∧ k_ ≠ gb687 ∧ k_ ≠ gb688)) ?hr ?hp (fun _ hk => hk) ((show ∀ k_, w28.heap.size ≤ k_ → (fun k_ => (w.heap.size ≤ k_) ∧ some k_ ≠ (.slice Ao25 t689.length co25 : Value).ownBlock ∧ some k_ ≠ (v696 : Value).ownBlock ∧ k_ ≠ gb687 ∧ k_ ≠ gb688) k_ from fun k_ hk => ⟨(Nat.le_trans (below_size (by exact bB)) hk), Kd.fresh' (Kd.R_lt (by exact rP HO691.out)) k_ hk, Kd.fresh' (Kd.R_lt (by exact rP HO697.out)) k_ hk, Kd.freshB (g := gb687) (o := .cells #[.int .i64 a0_0, .slice A0_1 l0_1.length c0_1] 31 (0, 0)) (by exact kP BK687.out) k_ hk, Kd.freshB (g := gb688) (o := .cells #[.slice A1_0 l1_0.length c1_0, .slice A1_1 l1_1.length c1_1] 71 (0, 0)) (by exact kP BK688.out) k_ hk⟩) _ (Nat.le_refl _)) (Below.refl _ _) (Nat.le_refl _) (by simp) ?_;(case hd => rfl);(case hg => rfl);(case hr => first | (go_simp;done) | (go_simp;rfl));(case hp => exact (Reps.none _ _));intro v699 w29 ho30 hb hg_ hnew_;clear hg_ hnew_;(first | rw [← Ny698.out] at ho30 | (simp only [Int.reduceToNat] at ho30;rw [← Ny698.out] at ho30));have n0_ := aM (Kd.R_below (by exact rP HO691.out) hb);have n1_ := aM (Kd.R_below (by exact rP HO697.out) hb);have n2_ := aM (Kd.N_lower ho30 (below_size (by exact bB)));have n3_ := aM (blk_below (g := gb687) (o := .cells #[.int .i64 a0_0, .slice A0_1 l0_1.length c0_1] 31 (0, 0)) (by exact kP BK687.out) hb);have n4_ := aM (blk_below (g := gb688) (o := .cells #[.slice A1_0 l1_0.length c1_0, .slice A1_1 l1_1.length c1_1] 71 (0, 0)) (by exact kP BK688.out) hb);have n5_ := aM (below_step (by exact bB) hb);clear HO691;clear HO697;clear BK687;clear BK688;clear HB;have HO691 := n0_;have HO697 := n1_;have HO700 := n2_;have BK687 := n3_;have BK688 := n4_;have HB := n5_;clear n0_ n1_ n2_ n3_ n4_ n5_;clear hb ho30;obtain ⟨Ao31, co31, eo31⟩ := Kd.R_slice HO697.out;subst eo31) | ((with_reducible refine gate_callee (f := 126) rfl ?_);refine goesL_ (some 35) rfl rfl Try.func126 (by kernel_rfl) rfl #[.int .i64 a2, .int .i64 (t695.length : Int)] rfl mM ?_;(with_reducible refine (spec_l1Least.calls a2 (t695.length : Int) t701 _ A17.out).mono ?_);rintro e w' ⟨rfl, ⟨nd, rfl⟩⟩;refine ⟨_, rfl, ?_⟩) | ((with_reducible refine gate_callee (f := 125) rfl ?_);refine goesL_ (some 36) rfl rfl Try.func125 (by kernel_rfl) rfl #[.slice Ao31 t695.length co31, .int .i64 t701] rfl mM ?_;(with_reducible refine (spec_l8Choices.calls k _ _ t695 t701 t702 _ ?side1 ?side2 A18.out).mono ?_);(case side1 => exact cP (Kd.R_reads' HO697.out).2.2);(case side2 => exact (Kd.R_reads' HO697.out).2.1);rintro e w32 ⟨v703, rfl, ho0, hb⟩;refine ⟨_, rfl, ?_⟩;have n0_ := aM (Kd.R_below (by exact rP HO691.out) hb);have n1_ := aM (Kd.R_below (by exact rP HO697.out) hb);have n2_ := aM (Kd.N_elder' (by (with_reducible repeat (first | apply Kd.N_alloc | apply Kd.N_drewN | apply Kd.N_drew));exact HO700.out) (Kd.N_base ho0) hb);have n3_ := aM (Kd.N_lower (Kd.N_mono (ok' := fun k_ => (w.heap.size ≤ k_) ∧ some k_ ≠ (.slice Ao25 t689.length co25 : Value).ownBlock ∧ some k_ ≠ (.slice Ao31 t695.length co31 : Value).ownBlock ∧ some k_ ≠ (v699 : Value).ownBlock ∧ k_ ≠ gb687 ∧ k_ ≠ gb688) ho0 (fun k_ hk_ => ⟨(Nat.le_trans (below_size (by exact bB)) hk_), (Kd.fresh' (Kd.R_lt (by exact rP HO691.out)) k_ hk_), (Kd.fresh' (Kd.R_lt (by exact rP HO697.out)) k_ hk_), (Kd.fresh' (Kd.N_lt (by (with_reducible repeat (first | apply Kd.N_alloc | apply Kd.N_drewN | apply Kd.N_drew));exact HO700.out)) k_ hk_), (Kd.freshB (g := gb687) (o := .cells #[.int .i64 a0_0, .slice A0_1 l0_1.length c0_1] 31 (0, 0)) (by exact kP BK687.out) k_ hk_), (Kd.freshB (g := gb688) (o := .cells #[.slice A1_0 l1_0.length c1_0, .slice A1_1 l1_1.length c1_1] 71 (0, 0)) (by exact kP BK688.out) k_ hk_)⟩)) (below_size (by exact bB)));have n4_ := aM (blk_below (g := gb687) (o := .cells #[.int .i64 a0_0, .slice A0_1 l0_1.length c0_1] 31 (0, 0)) (by exact kP BK687.out) hb);have n5_ := aM (blk_below (g := gb688) (o := .cells #[.slice A1_0 l1_0.length c1_0, .slice A1_1 l1_1.length c1_1] 71 (0, 0)) (by exact kP BK688.out) hb);have n6_ := aM (below_step (by exact bB) hb);clear HO691;clear HO697;clear HO700;clear BK687;clear BK688;clear HB;have HO691 := n0_;have HO697 := n1_;have HO700 := n2_;have HO704 := n3_;have BK687 := n4_;have BK688 := n5_;have HB := n6_;clear n0_ n1_ n2_ n3_ n4_ n5_ n6_;(try clear hb);(try clear hb2);(try clear hk);(try clear hi);(try clear ho0)))
 go_loopg [9, 10, 12] k (fun kq v9 v10 v12 w' => ∃ (x9_1 : List (List Int)) (x10_1 : Int) (x12_1 : Int), v10 = .int .i64 x10_1 ∧ v12 = .int .i64 x12_1 ∧ Aside0 (spec_l8Best.l0 kq a2 x9_1 x10_1 t702 x12_1 a0_0 l0_1 l1_0 l1_1 = some (r1, r2)) ∧ Aside0 (kq ≤ k) ∧ Aside0 (Kd.N (Kd.slice 3 (Kd.int .i64)) 28 w' w.heap.size (fun k_ => (w.heap.size ≤ k_) ∧ some k_ ≠ (v703 : Value).ownBlock ∧ k_ ≠ gb687 ∧ k_ ≠ gb688) v9 x9_1) ∧ Aside0 (Kd.N (Kd.slice 3 (Kd.int .i64)) 28 w' w.heap.size (fun k_ => (w.heap.size ≤ k_) ∧ some k_ ≠ (v9 : Value).ownBlock ∧ k_ ≠ gb687 ∧ k_ ≠ gb688) v703 t702) ∧ Aside0 (w'.heap[gb687]? = some (.cells #[.int .i64 a0_0, (.slice A0_1 l0_1.length c0_1)] 31 (0, 0))) ∧ Aside0 (w'.heap[gb688]? = some (.cells #[(.slice A1_0 l1_0.length c1_0), (.slice A1_1 l1_1.length c1_1)] 71 (0, 0))) ∧ Aside0 (Below w.heap.size w w'))
 case atStart => exact ⟨(y698), ((-1)), (0), (by first | rfl | (simp;done) | (simp [*];done)), (by first | rfl | (simp;done) | (simp [*];done)), H', ⟨Nat.le_refl _⟩, ⟨by (with_reducible repeat (first | apply Kd.N_alloc | apply Kd.N_drewN | apply Kd.N_drew));exact Kd.N_mono HO700.out (fun _ hk => ⟨hk.1.1, ⟨hk.2, ⟨hk.1.2.2.2.1, hk.1.2.2.2.2⟩⟩⟩)⟩, ⟨by (with_reducible repeat (first | apply Kd.N_alloc | apply Kd.N_drewN | apply Kd.N_drew));exact Kd.N_mono HO704.out (fun _ hk => ⟨hk.1, ⟨hk.2.2.2.1, ⟨hk.2.2.2.2.1, hk.2.2.2.2.2⟩⟩⟩)⟩, ⟨by exact kP BK687.out⟩, ⟨by exact kP BK688.out⟩, ⟨by exact bB⟩⟩
 case round =>
  clear H'
  try clear c1
  try clear c2
  try clear p2
  try clear c5
  try clear c5b0
  try clear c5b1
  try clear c5b2
  try clear p6
  try clear c7
  try clear c8
  try clear c11
  try clear c12
  try clear c21
  try clear hcz10_0
  try clear hcz10_1
  try clear hcz22_0
  try clear hcz22_1
  try clear hcz23_0
  try clear hcz23_1
  try clear hcz26_0
  try clear hcz26_1
  try clear hcz27_0
  try clear hcz27_1
  try clear hcz9_0
  try clear hcz9_1
  try clear hfz10_0
  try clear hfz10_1
  try clear hfz22_0
  try clear hfz22_1
  try clear hfz23_0
  try clear hfz23_1
  try clear hfz26_0
  try clear hfz26_1
  try clear hfz27_0
  try clear hfz27_1
  try clear hfz9_0
  try clear hfz9_1
  obtain ⟨x9_1, x10_1, x12_1, rfl, rfl, HA, HK1, HO_9, HO_11, BK687, BK688, HB⟩ := hrel
  cases gk with
  | zero => exact absurd HA.out (by simp [spec_l8Best.l0])
  | succ k1 =>
   have H := HA.out
   clear HA
   simp only [spec_l8Best.l0] at H
   by_cases c33 : x12_1 < (t702.length : Int)
   rotate_left
   ·rw [if_neg c33] at H
    have c33b0 : decide (x12_1 < (t702.length : Int)) = false := decide_eq_false c33
    clear c33
    simp only [Option.some.injEq, Prod.mk.injEq] at H
    obtain ⟨rfl, rfl⟩ := H
    obtain ⟨Ao55, co55, eo55⟩ := Kd.N_slice HO_11.out
    subst eo55
    go_wp2
    go_ret2
    exact ⟨_, by first | rfl | (simp [errW_none, errW_some] <;> rfl) | (simp [*, errW_none, errW_some] <;> rfl), by (with_reducible repeat (first | apply Kd.N_alloc | apply Kd.N_drewN | apply Kd.N_drew));exact Kd.N_mono HO_9.out (fun _ hk => hk.1), by exact bB⟩
   rw [if_pos c33] at H
   have c33b0 : decide (x12_1 < (t702.length : Int)) = true := decide_eq_true c33
   clear c33
   by_cases c34 : 0 ≤ x12_1
   rotate_left
   ·rw [if_neg c34] at H
    exact absurd H (by simp)
   rw [if_pos c34] at H
   have c34b0 : decide (0 ≤ x12_1) = true := decide_eq_true c34
   clear c34
   replace H := Option.bind_eq_some_iff.mp H
   obtain ⟨⟨t706, t709⟩, A350, H⟩ := H
   replace H : ((spec_l8Best.f k1 a0_0 l0_1 t706 t709 a2).bind fun bt712 => (if bt712.2 > x10_1 then ((some (([rd_L3 t702 x12_1] : List (List Int)) : List (List Int))).bind fun y717 => (if y717.length + bt712.1.length < 5864062014805 then (spec_l8Best.l0 k1 a2 (y717 ++ bt712.1) bt712.2 t702 (wrap64 (x12_1 + 1)) a0_0 l0_1 l1_0 l1_1) else (none))) else (spec_l8Best.l0 k1 a2 x9_1 x10_1 t702 (wrap64 (x12_1 + 1)) a0_0 l0_1 l1_0 l1_1))) = some (r1, r2) := H
   have A35 := Aside0.mk A350
   clear A350
   replace H := Option.bind_eq_some_iff.mp H
   obtain ⟨⟨t712, t715⟩, A360, H⟩ := H
   replace H : (if t715 > x10_1 then ((some (([rd_L3 t702 x12_1] : List (List Int)) : List (List Int))).bind fun y717 => (if y717.length + t712.length < 5864062014805 then (spec_l8Best.l0 k1 a2 (y717 ++ t712) t715 t702 (wrap64 (x12_1 + 1)) a0_0 l0_1 l1_0 l1_1) else (none))) else (spec_l8Best.l0 k1 a2 x9_1 x10_1 t702 (wrap64 (x12_1 + 1)) a0_0 l0_1 l1_0 l1_1)) = some (r1, r2) := H
   have A36 := Aside0.mk A360
   clear A360
   by_cases c37 : t715 > x10_1
   rotate_left
   ·rw [if_neg c37] at H
    have c37b0 : decide (x10_1 < t715) = false := decide_eq_false c37
    clear c37
    have H' := Aside0.mk H
    clear H
    obtain ⟨Ao49, co49, eo49⟩ := Kd.N_slice HO_11.out
    subst eo49
    try go_wp2
    have n0_ := aM (Kd.N_drew HO_9.out)
    have n1_ := aM (Kd.N_drew HO_11.out)
    have n2_ := aM (blk_drew BK687.out)
    have n3_ := aM (blk_drew BK688.out)
    have n4_ := aM (below_drew1 HB.out)
    clear HO_9
    clear HO_11
    clear BK687
    clear BK688
    clear HB
    have HO_9 := n0_
    have HO_11 := n1_
    have BK687 := n2_
    have BK688 := n3_
    have HB := n4_
    clear n0_ n1_ n2_ n3_ n4_
    have p705 : 0 ≤ (x12_1 : Int) := oA
    have q705 : x12_1 < (t702.length : Int) := oA
    obtain ⟨ad705, A705_0, c705_0, e705, hx705_0, hl705_0, hi705_0⟩ := at_L3 (Kd.N_reads' HO_11.out).2.2 x12_1 p705 q705
    cases e705
    obtain ⟨ce705, hce705, hMe705, hcc705⟩ := Kd.N_get HO_11.out [] x12_1 p705 (by first | exact q705 | exact oA | (have e_ := (Kd.N_reads' HO_11.out).1;omega))
    obtain ⟨ua705_0, uc705_0, rfl, ul705_0, ge705_0⟩ := Kd.FK_slice_open hMe705
    have hv705_0 := hcc705 0 _ rfl
    rw [Nat.add_zero, show ((Kd.slice 3 (Kd.int .i64))).sz = 1 from rfl, Nat.mul_one] at hv705_0
    replace hv705_0 := Option.some.inj (hv705_0.symm.trans hx705_0)
    injection hv705_0 with hva_ hvn_ hvc_
    rw [hva_] at ge705_0
    rw [hvc_] at ul705_0
    have HL705_0 := aM (show Kd.V (Kd.int .i64) 3 _ w.heap.size _ _ (rd_L3 t702 x12_1) from Kd.V_mk ul705_0 ge705_0)
    clear hva_ hvn_ hvc_ ge705_0 ul705_0
    clear hcc705 hce705
    have HR705_0 := Aside0.mk hi705_0
    have HC705_0 := Aside0.mk hl705_0
    clear hi705_0 hl705_0
    replace p705 := eq_true p705
    replace q705 := eq_true q705
    refine start_ (n := 15) (S := fun w' => w'.cell? ⟨gb687, 0, none⟩ = some (.int .i64 a0_0) ∧ w'.cell? ⟨gb687, 1, none⟩ = some (.slice A0_1 l0_1.length c0_1) ∧ w'.cell? ⟨gb688, 0, none⟩ = some (.slice A1_0 l1_0.length c1_0) ∧ w'.cell? ⟨gb688, 1, none⟩ = some (.slice A1_1 l1_1.length c1_1) ∧ w'.cell? (ad705.add (x12_1).toNat) = some (.slice A705_0 (rd_L3 t702 x12_1).length c705_0)) (ds := []) #[false,false,false,false,false,false,false,false,false,false,false,false,false,false,false] (by kernel_rfl) rfl rfl ⟨(blk_cell BK687.out 0).trans rfl, (blk_cell BK687.out 1).trans rfl, (blk_cell BK688.out 0).trans rfl, (blk_cell BK688.out 1).trans rfl, hx705_0⟩ (fun hHeld => ?_);refine with_tabW spec_l8Best.tab8 spec_l8Best.bits8 (fun HT_ HW_ => ?_)
    generalize wr.drew = w50 at HO_9 HO_11 BK687 BK688 HB HL705_0 HR705_0 hx705_0 hHeld ⊢
    refine pure_ (i := 3) (N := some 47) (v := ?_) (a' := ?_) #[false,false,false,true,false,false,false,false,false,false,false,false,false,false,false] rfl rfl (any_of HT_.out (by kernel_rfl)) (fun _ _ _ h => h) (Or.inl ⟨by rfl, ?_⟩) ?_ ?_
    rotate_left
    ·intro w'
     go_simp
     with_reducible rfl
    rotate_left
    ·exact aP
    refine pure_ (i := 4) (N := some 48) (v := ?_) (a' := ?_) #[false,false,false,true,true,false,false,false,false,false,false,false,false,false,false] rfl rfl (any_of HT_.out (by kernel_rfl)) (fun _ _ _ h => h) (Or.inl ⟨by rfl, ?_⟩) ?_ ?_
    rotate_left
    ·intro w'
     go_simp
     with_reducible rfl
    rotate_left
    ·exact aP
    refine pure_ (i := 5) (N := some 49) (v := ?_) (a' := ?_) #[false,false,false,true,true,true,false,false,false,false,false,false,false,false,false] rfl rfl (any_of HT_.out (by kernel_rfl)) (fun _ _ _ h => h) (Or.inl ⟨by rfl, ?_⟩) ?_ ?_
    rotate_left
    ·intro w'
     go_simp
     with_reducible rfl
    rotate_left
    ·exact aP
    refine pure_ (i := 8) (N := some 52) (v := ?_) (a' := ?_) #[false,false,false,true,true,true,false,false,true,false,false,false,false,false,false] rfl rfl (any_of HT_.out (by kernel_rfl)) (fun _ _ _ h => h) (Or.inl ⟨by rfl, ?_⟩) ?_ ?_
    rotate_left
    ·intro w'
     go_simp
     with_reducible rfl
    rotate_left
    ·exact aP
    refine take_ (i := 0) (N := some 44) (v := ?_) (a' := ?_) #[true,false,false,true,true,true,false,false,true,false,false,false,false,false,false] rfl rfl (take_ofW HT_.out HW_.out (by kernel_rfl)) (fun _ _ _ h => h) (Or.inl ⟨by rfl, ?_⟩) hHeld ?_ ?_
    rotate_left
    ·rintro w' ⟨s0, s1, s2, s3, s4⟩
     go_simp
     with_reducible rfl
    rotate_left
    ·exact aP
    refine take_ (i := 1) (N := some 45) (v := ?_) (a' := ?_) #[true,true,false,true,true,true,false,false,true,false,false,false,false,false,false] rfl rfl (take_ofW HT_.out HW_.out (by kernel_rfl)) (fun _ _ _ h => h) (Or.inl ⟨by rfl, ?_⟩) hHeld ?_ ?_
    rotate_left
    ·rintro w' ⟨s0, s1, s2, s3, s4⟩
     go_simp
     with_reducible rfl
    rotate_left
    ·exact aP
    refine take_ (i := 2) (N := some 46) (v := ?_) (a' := ?_) #[true,true,true,true,true,true,false,false,true,false,false,false,false,false,false] rfl rfl (take_ofW HT_.out HW_.out (by kernel_rfl)) (fun _ _ _ h => h) (Or.inl ⟨by rfl, ?_⟩) hHeld ?_ ?_
    rotate_left
    ·rintro w' ⟨s0, s1, s2, s3, s4⟩
     go_simp
     with_reducible rfl
    rotate_left
    ·exact aP
    refine take_ (i := 6) (N := some 50) (v := ?_) (a' := ?_) #[true,true,true,true,true,true,true,false,true,false,false,false,false,false,false] rfl rfl (take_ofW HT_.out HW_.out (by kernel_rfl)) (fun _ _ _ h => h) (Or.inl ⟨by rfl, ?_⟩) hHeld ?_ ?_
    rotate_left
    ·rintro w' ⟨s0, s1, s2, s3, s4⟩
     go_simp
     with_reducible rfl
    rotate_left
    ·exact aP
    refine one_ (i := 7) (N := some 51) #[true,true,true,true,true,true,true,true,true,false,false,false,false,false,false] rfl rfl (one_of HT_.out (by kernel_rfl)) (by decide) (fun K hK => ?_)
    refine goes_ Try.func118 (by kernel_rfl) rfl #[.agg #[.int .i64 a0_0, .slice A0_1 l0_1.length c0_1], .agg #[.slice A1_0 l1_0.length c1_0, .slice A1_1 l1_1.length c1_1], .slice A705_0 (rd_L3 t702 x12_1).length c705_0] (by rfl) rfl rfl mM ?_
    with_reducible refine (spec_l8Round.calls k1 a0_0 _ _ l0_1 _ _ l1_0 _ _ l1_1 _ _ (rd_L3 t702 x12_1) t706 t709 _ ?side1 ?side2 ?side3 ?side4 ?side5 ?side6 ?side7 ?side8 A35.out).mono ?_
    (case side1 => exact cP (Kd.C_below HR0_1.out HB.out))
    (case side2 => exact HC0_1.out)
    (case side3 => exact cP (Kd.C_below HR1_0.out HB.out))
    (case side4 => exact HC1_0.out)
    (case side5 => exact cP (Kd.C_below HR1_1.out HB.out))
    (case side6 => exact HC1_1.out)
    (case side7 => exact cP (by repeat (first | (with_reducible exact HR705_0.out) | (with_reducible refine Kd.C_alloc ?_ _) | (with_reducible refine Kd.C_drewN ?_ _) | (with_reducible refine Kd.C_drew ?_) | exact HR705_0.out)))
    (case side8 => exact HC705_0.out)
    rintro e w51 ⟨v707, v710, rfl, ho0, ho1, hb⟩
    have HS4_ := (hb.cell (World.block_lt_of_cell? _ _ (hHeld.2.2.2.2))).trans (hHeld.2.2.2.2)
    refine ⟨_, rfl, ?_⟩
    have n0_ := aM (Kd.N_mono (Kd.N_told (Kd.N_told (Kd.N_old (by (with_reducible repeat (first | apply Kd.N_alloc | apply Kd.N_drewN | apply Kd.N_drew));exact HO_9.out) hb) (Kd.R_base ho0)) (Kd.R_base ho1)) (fun _ h_ => h_.1))
    have n1_ := aM (Kd.N_mono (Kd.N_told (Kd.N_told (Kd.N_old (by (with_reducible repeat (first | apply Kd.N_alloc | apply Kd.N_drewN | apply Kd.N_drew));exact HO_11.out) hb) (Kd.R_base ho0)) (Kd.R_base ho1)) (fun _ h_ => h_.1))
    have n2_ := aM (Kd.V_mono (Kd.V_told (Kd.V_told (Kd.V_old (by (with_reducible repeat (first | apply Kd.V_alloc | apply Kd.V_drewN | apply Kd.V_drew));exact HL705_0.out) hb) (Kd.R_base ho0)) (Kd.R_base ho1)) (fun _ h_ => h_.1))
    have n3_ := aM (Kd.R_lower (Kd.R_newM (M := fun k_ => (w.heap.size ≤ k_)) ho0 (below_size (by exact bB)) (fun k_ h_ => h_)) (below_size (by exact bB)))
    have n4_ := aM (Kd.R_lower (Kd.R_newM (M := fun k_ => (w.heap.size ≤ k_)) ho1 (below_size (by exact bB)) (fun k_ h_ => h_)) (below_size (by exact bB)))
    have n5_ := aM (blk_below (g := gb687) (o := .cells #[.int .i64 a0_0, .slice A0_1 l0_1.length c0_1] 31 (0, 0)) (by exact kP BK687.out) hb)
    have n6_ := aM (blk_below (g := gb688) (o := .cells #[.slice A1_0 l1_0.length c1_0, .slice A1_1 l1_1.length c1_1] 71 (0, 0)) (by exact kP BK688.out) hb)
    have n7_ := aM (Kd.C_below (by repeat (first | (with_reducible exact HR705_0.out) | (with_reducible refine Kd.C_alloc ?_ _) | (with_reducible refine Kd.C_drewN ?_ _) | (with_reducible refine Kd.C_drew ?_) | exact HR705_0.out)) hb)
    have n8_ := aM (below_step (by exact bB) hb)
    clear HO_9
    clear HO_11
    clear HL705_0
    clear BK687
    clear BK688
    clear HR705_0
    clear HB
    have HO_9 := n0_
    have HO_11 := n1_
    have HL705_0 := n2_
    have HO708 := n3_
    have HO711 := n4_
    have BK687 := n5_
    have BK688 := n6_
    have HR705_0 := n7_
    have HB := n8_
    clear n0_ n1_ n2_ n3_ n4_ n5_ n6_ n7_ n8_
    (try clear hb)
    (try clear hb2)
    (try clear hk)
    (try clear hi)
    (try clear ho0)
    (try clear ho1)
    obtain ⟨Ao52, co52, eo52⟩ := Kd.R_slice HO708.out
    (first | subst eo52 | (injection eo52 with f1_ f2_ f3_;have f4_ := f1_.symm;have f5_ := f3_.symm;clear f1_ f2_ f3_;subst f4_;subst f5_))
    obtain ⟨Ao53, co53, eo53⟩ := Kd.R_slice HO711.out
    (first | subst eo53 | (injection eo53 with f1_ f2_ f3_;have f4_ := f1_.symm;have f5_ := f3_.symm;clear f1_ f2_ f3_;subst f4_;subst f5_))
    refine hK.out _ _ ⟨(blk_cell BK687.out 0).trans rfl, (blk_cell BK687.out 1).trans rfl, (blk_cell BK688.out 0).trans rfl, (blk_cell BK688.out 1).trans rfl, HS4_⟩ (fun hHeld => ?_)
    clear hK K
    refine norm_ (a' := ?_) ?_ ?_
    rotate_left
    ·show Act.put _ (some 51) _ = _
     simp only [Act.put, List.setIfInBounds_toArray, List.set_cons_zero, List.set_cons_succ, i64_w, i32_w]
     rfl
    refine one_ (i := 9) (N := some 53) #[true,true,true,true,true,true,true,true,true,true,false,false,false,false,false] rfl rfl (one_of HT_.out (by kernel_rfl)) (by decide) (fun K hK => ?_)
    refine goes_ Try.func76 (by kernel_rfl) rfl #[.agg #[.int .i64 a0_0, .slice A0_1 l0_1.length c0_1], .agg #[.slice Ao52 t706.length co52, .slice Ao53 t709.length co53], .int .i64 a2] (by rfl) rfl rfl mM ?_
    with_reducible refine (ih k1 (by have := HK1.out;omega) a0_0 _ _ l0_1 _ _ t706 _ _ t709 a2 t712 t715 _ ?side1 ?side2 ?side3 ?side4 ?side5 ?side6 A36.out).mono ?_
    (case side1 => exact cP (Kd.C_below HR0_1.out HB.out))
    (case side2 => exact HC0_1.out)
    (case side3 => exact cP (Kd.R_reads' HO708.out).2.2)
    (case side4 => exact (Kd.R_reads' HO708.out).2.1)
    (case side5 => exact cP (Kd.R_reads' HO711.out).2.2)
    (case side6 => exact (Kd.R_reads' HO711.out).2.1)
    rintro e w54 ⟨v713, rfl, ho0, hb⟩
    have HS4_ := (hb.cell (World.block_lt_of_cell? _ _ (hHeld.2.2.2.2))).trans (hHeld.2.2.2.2)
    refine ⟨_, rfl, ?_⟩
    have n0_ := aM (Kd.N_elder' (by (with_reducible repeat (first | apply Kd.N_alloc | apply Kd.N_drewN | apply Kd.N_drew));exact HO_9.out) (Kd.N_base ho0) hb)
    have n1_ := aM (Kd.N_elder' (by (with_reducible repeat (first | apply Kd.N_alloc | apply Kd.N_drewN | apply Kd.N_drew));exact HO_11.out) (Kd.N_base ho0) hb)
    have n2_ := aM (Kd.V_elder' (by (with_reducible repeat (first | apply Kd.V_alloc | apply Kd.V_drewN | apply Kd.V_drew));exact HL705_0.out) (Kd.N_base ho0) hb)
    have n3_ := aM (Kd.R_below (by exact rP HO708.out) hb)
    have n4_ := aM (Kd.R_below (by exact rP HO711.out) hb)
    have n5_ := aM (Kd.N_lower (Kd.N_mono (ok' := fun k_ => (w.heap.size ≤ k_) ∧ some k_ ≠ (u9 : Value).ownBlock ∧ some k_ ≠ (.slice (some ad705) t702.length co49 : Value).ownBlock ∧ some k_ ≠ (.slice Ao52 t706.length co52 : Value).ownBlock ∧ some k_ ≠ (.slice Ao53 t709.length co53 : Value).ownBlock ∧ k_ ≠ gb687 ∧ k_ ≠ gb688) ho0 (fun k_ hk_ => ⟨(Nat.le_trans (below_size (by exact bB)) hk_), (Kd.fresh' (Kd.N_lt (by (with_reducible repeat (first | apply Kd.N_alloc | apply Kd.N_drewN | apply Kd.N_drew));exact HO_9.out)) k_ hk_), (Kd.fresh' (Kd.N_lt (by (with_reducible repeat (first | apply Kd.N_alloc | apply Kd.N_drewN | apply Kd.N_drew));exact HO_11.out)) k_ hk_), (Kd.fresh' (Kd.R_lt (by exact rP HO708.out)) k_ hk_), (Kd.fresh' (Kd.R_lt (by exact rP HO711.out)) k_ hk_), (Kd.freshB (g := gb687) (o := .cells #[.int .i64 a0_0, .slice A0_1 l0_1.length c0_1] 31 (0, 0)) (by exact kP BK687.out) k_ hk_), (Kd.freshB (g := gb688) (o := .cells #[.slice A1_0 l1_0.length c1_0, .slice A1_1 l1_1.length c1_1] 71 (0, 0)) (by exact kP BK688.out) k_ hk_)⟩)) (below_size (by exact bB)))
    have n6_ := aM (blk_below (g := gb687) (o := .cells #[.int .i64 a0_0, .slice A0_1 l0_1.length c0_1] 31 (0, 0)) (by exact kP BK687.out) hb)
    have n7_ := aM (blk_below (g := gb688) (o := .cells #[.slice A1_0 l1_0.length c1_0, .slice A1_1 l1_1.length c1_1] 71 (0, 0)) (by exact kP BK688.out) hb)
    have n8_ := aM (Kd.C_below (by repeat (first | (with_reducible exact HR705_0.out) | (with_reducible refine Kd.C_alloc ?_ _) | (with_reducible refine Kd.C_drewN ?_ _) | (with_reducible refine Kd.C_drew ?_) | exact HR705_0.out)) hb)
    have n9_ := aM (below_step (by exact bB) hb)
    clear HO_9
    clear HO_11
    clear HL705_0
    clear HO708
    clear HO711
    clear BK687
    clear BK688
    clear HR705_0
    clear HB
    have HO_9 := n0_
    have HO_11 := n1_
    have HL705_0 := n2_
    have HO708 := n3_
    have HO711 := n4_
    have HO714 := n5_
    have BK687 := n6_
    have BK688 := n7_
    have HR705_0 := n8_
    have HB := n9_
    clear n0_ n1_ n2_ n3_ n4_ n5_ n6_ n7_ n8_ n9_
    (try clear hb)
    (try clear hb2)
    (try clear hk)
    (try clear hi)
    (try clear ho0)
    refine hK.out _ _ ⟨(blk_cell BK687.out 0).trans rfl, (blk_cell BK687.out 1).trans rfl, (blk_cell BK688.out 0).trans rfl, (blk_cell BK688.out 1).trans rfl, HS4_⟩ (fun hHeld => ?_)
    clear hK K
    refine norm_ (a' := ?_) ?_ ?_
    rotate_left
    ·show Act.put _ (some 53) _ = _
     simp only [Act.put, List.setIfInBounds_toArray, List.set_cons_zero, List.set_cons_succ, i64_w, i32_w]
     rfl
    refine pure_ (i := 10) (N := some 43) (v := ?_) (a' := ?_) #[true,true,true,true,true,true,true,true,true,true,true,false,false,false,false] rfl rfl (any_of HT_.out (by kernel_rfl)) (fun _ _ _ h => h) (Or.inl ⟨by rfl, ?_⟩) ?_ ?_
    rotate_left
    ·intro w'
     go_simp
     with_reducible rfl
    rotate_left
    ·exact aP
    refine pure_ (i := 11) (N := some 54) (v := ?_) (a' := ?_) #[true,true,true,true,true,true,true,true,true,true,true,true,false,false,false] rfl rfl (any_of HT_.out (by kernel_rfl)) (fun _ _ _ h => h) (Or.inl ⟨by rfl, ?_⟩) ?_ ?_
    rotate_left
    ·intro w'
     go_simp
     with_reducible rfl
    rotate_left
    ·exact aP
    refine pure_ (i := 12) (N := some 55) (v := ?_) (a' := ?_) #[true,true,true,true,true,true,true,true,true,true,true,true,true,false,false] rfl rfl (any_of HT_.out (by kernel_rfl)) (fun _ _ _ h => h) (Or.inl ⟨by rfl, ?_⟩) ?_ ?_
    rotate_left
    ·intro w'
     go_simp
     with_reducible rfl
    rotate_left
    ·exact aP
    refine pure_ (i := 13) (N := some 13) (v := ?_) (a' := ?_) #[true,true,true,true,true,true,true,true,true,true,true,true,true,true,false] rfl rfl (any_of HT_.out (by kernel_rfl)) (fun _ _ _ h => h) (Or.inl ⟨by rfl, ?_⟩) ?_ ?_
    rotate_left
    ·intro w'
     go_simp
     with_reducible rfl
    rotate_left
    ·exact aP
    refine pure_ (i := 14) (N := some 14) (v := ?_) (a' := ?_) #[true,true,true,true,true,true,true,true,true,true,true,true,true,true,true] rfl rfl (any_of HT_.out (by kernel_rfl)) (fun _ _ _ h => h) (Or.inl ⟨by rfl, ?_⟩) ?_ ?_
    rotate_left
    ·intro w'
     go_simp
     with_reducible rfl
    rotate_left
    ·exact aP
    refine done_ (done_of HT_.out (by kernel_rfl)) ?_
    try go_wp2
    go_roundg k1
    case measure => have := HK1.out;omega
    case rel => exact ⟨(x9_1), (x10_1), (wrap64 (x12_1 + 1)), (by first | rfl | (simp;done) | (simp [*];done)), (by first | rfl | (simp;done) | (simp [*];done)), H', ⟨by have := HK1.out;omega⟩, ⟨by (with_reducible repeat (first | apply Kd.N_alloc | apply Kd.N_drewN | apply Kd.N_drew));exact Kd.N_mono HO_9.out (fun _ hk => ⟨hk.1.1.1.1, ⟨hk.1.1.1.2.1, ⟨hk.1.1.1.2.2.1, hk.1.1.1.2.2.2⟩⟩⟩)⟩, ⟨by (with_reducible repeat (first | apply Kd.N_alloc | apply Kd.N_drewN | apply Kd.N_drew));exact Kd.N_mono HO_11.out (fun _ hk => ⟨hk.1.1.1.1, ⟨hk.1.1.1.2.1, ⟨hk.1.1.1.2.2.1, hk.1.1.1.2.2.2⟩⟩⟩)⟩, ⟨by exact kP BK687.out⟩, ⟨by exact kP BK688.out⟩, ⟨by exact bB⟩⟩
   rw [if_pos c37] at H
   have c37b0 : decide (x10_1 < t715) = true := decide_eq_true c37
   clear c37
   obtain ⟨y717, hy717⟩ : ∃ y_ : List (List Int), y_ = (([rd_L3 t702 x12_1] : List (List Int))) := ⟨_, rfl⟩
   replace H : (if y717.length + t712.length < 5864062014805 then (spec_l8Best.l0 k1 a2 (y717 ++ t712) t715 t702 (wrap64 (x12_1 + 1)) a0_0 l0_1 l1_0 l1_1) else (none)) = some (r1, r2) := by first | (rw [hy717];with_reducible exact H) | (have H2_ := (Option.bind_some _ _).symm.trans H;rw [hy717];with_reducible exact H2_) | (have H2_ := (Option.bind_some _ _).symm.trans H;with_reducible exact H2_) | with_reducible exact H | (rw [hy717];exact H) | exact H
   have Ny717 := Aside0.mk hy717
   clear hy717
   by_cases c38 : y717.length + t712.length < 5864062014805
   rotate_left
   ·rw [if_neg c38] at H
    exact absurd H (by simp)
   rw [if_pos c38] at H
   have LMc38 := Aside0.mk c38
   clear c38
   obtain ⟨y720, hy720⟩ : ∃ y_ : List (List Int), y_ = (y717 ++ t712) := ⟨_, rfl⟩
   replace H : (spec_l8Best.l0 k1 a2 y720 t715 t702 (wrap64 (x12_1 + 1)) a0_0 l0_1 l1_0 l1_1) = some (r1, r2) := by first | (rw [hy720];with_reducible exact H) | (have H2_ := (Option.bind_some _ _).symm.trans H;rw [hy720];with_reducible exact H2_) | (have H2_ := (Option.bind_some _ _).symm.trans H;with_reducible exact H2_) | with_reducible exact H | (rw [hy720];exact H) | exact H
   have Ny720 := Aside0.mk hy720
   clear hy720
   have H' := Aside0.mk H
   clear H
   obtain ⟨Ao39, co39, eo39⟩ := Kd.N_slice HO_11.out
   subst eo39
   try go_wp2
   have n0_ := aM (Kd.N_drew HO_9.out)
   have n1_ := aM (Kd.N_drew HO_11.out)
   have n2_ := aM (blk_drew BK687.out)
   have n3_ := aM (blk_drew BK688.out)
   have n4_ := aM (below_drew1 HB.out)
   clear HO_9
   clear HO_11
   clear BK687
   clear BK688
   clear HB
   have HO_9 := n0_
   have HO_11 := n1_
   have BK687 := n2_
   have BK688 := n3_
   have HB := n4_
   clear n0_ n1_ n2_ n3_ n4_
   have p705 : 0 ≤ (x12_1 : Int) := oA
   have q705 : x12_1 < (t702.length : Int) := oA
   obtain ⟨ad705, A705_0, c705_0, e705, hx705_0, hl705_0, hi705_0⟩ := at_L3 (Kd.N_reads' HO_11.out).2.2 x12_1 p705 q705
   cases e705
   obtain ⟨ce705, hce705, hMe705, hcc705⟩ := Kd.N_get HO_11.out [] x12_1 p705 (by first | exact q705 | exact oA | (have e_ := (Kd.N_reads' HO_11.out).1;omega))
   obtain ⟨ua705_0, uc705_0, rfl, ul705_0, ge705_0⟩ := Kd.FK_slice_open hMe705
   have hv705_0 := hcc705 0 _ rfl
   rw [Nat.add_zero, show ((Kd.slice 3 (Kd.int .i64))).sz = 1 from rfl, Nat.mul_one] at hv705_0
   replace hv705_0 := Option.some.inj (hv705_0.symm.trans hx705_0)
   injection hv705_0 with hva_ hvn_ hvc_
   rw [hva_] at ge705_0
   rw [hvc_] at ul705_0
   have HL705_0 := aM (show Kd.V (Kd.int .i64) 3 _ w.heap.size _ _ (rd_L3 t702 x12_1) from Kd.V_mk ul705_0 ge705_0)
   clear hva_ hvn_ hvc_ ge705_0 ul705_0
   clear hcc705 hce705
   have HR705_0 := Aside0.mk hi705_0
   have HC705_0 := Aside0.mk hl705_0
   clear hi705_0 hl705_0
   replace p705 := eq_true p705
   replace q705 := eq_true q705
   refine start_ (n := 15) (S := fun w' => w'.cell? ⟨gb687, 0, none⟩ = some (.int .i64 a0_0) ∧ w'.cell? ⟨gb687, 1, none⟩ = some (.slice A0_1 l0_1.length c0_1) ∧ w'.cell? ⟨gb688, 0, none⟩ = some (.slice A1_0 l1_0.length c1_0) ∧ w'.cell? ⟨gb688, 1, none⟩ = some (.slice A1_1 l1_1.length c1_1) ∧ w'.cell? (ad705.add (x12_1).toNat) = some (.slice A705_0 (rd_L3 t702 x12_1).length c705_0)) (ds := []) #[false,false,false,false,false,false,false,false,false,false,false,false,false,false,false] (by kernel_rfl) rfl rfl ⟨(blk_cell BK687.out 0).trans rfl, (blk_cell BK687.out 1).trans rfl, (blk_cell BK688.out 0).trans rfl, (blk_cell BK688.out 1).trans rfl, hx705_0⟩ (fun hHeld => ?_);refine with_tabW spec_l8Best.tab8 spec_l8Best.bits8 (fun HT_ HW_ => ?_)
   generalize wr.drew = w40 at HO_9 HO_11 BK687 BK688 HB HL705_0 HR705_0 hx705_0 hHeld ⊢
   refine pure_ (i := 3) (N := some 47) (v := ?_) (a' := ?_) #[false,false,false,true,false,false,false,false,false,false,false,false,false,false,false] rfl rfl (any_of HT_.out (by kernel_rfl)) (fun _ _ _ h => h) (Or.inl ⟨by rfl, ?_⟩) ?_ ?_
   rotate_left
   ·intro w'
    go_simp
    with_reducible rfl
   rotate_left
   ·exact aP
   refine pure_ (i := 4) (N := some 48) (v := ?_) (a' := ?_) #[false,false,false,true,true,false,false,false,false,false,false,false,false,false,false] rfl rfl (any_of HT_.out (by kernel_rfl)) (fun _ _ _ h => h) (Or.inl ⟨by rfl, ?_⟩) ?_ ?_
   rotate_left
   ·intro w'
    go_simp
    with_reducible rfl
   rotate_left
   ·exact aP
   refine pure_ (i := 5) (N := some 49) (v := ?_) (a' := ?_) #[false,false,false,true,true,true,false,false,false,false,false,false,false,false,false] rfl rfl (any_of HT_.out (by kernel_rfl)) (fun _ _ _ h => h) (Or.inl ⟨by rfl, ?_⟩) ?_ ?_
   rotate_left
   ·intro w'
    go_simp
    with_reducible rfl
   rotate_left
   ·exact aP
   refine pure_ (i := 8) (N := some 52) (v := ?_) (a' := ?_) #[false,false,false,true,true,true,false,false,true,false,false,false,false,false,false] rfl rfl (any_of HT_.out (by kernel_rfl)) (fun _ _ _ h => h) (Or.inl ⟨by rfl, ?_⟩) ?_ ?_
   rotate_left
   ·intro w'
    go_simp
    with_reducible rfl
   rotate_left
   ·exact aP
   refine take_ (i := 0) (N := some 44) (v := ?_) (a' := ?_) #[true,false,false,true,true,true,false,false,true,false,false,false,false,false,false] rfl rfl (take_ofW HT_.out HW_.out (by kernel_rfl)) (fun _ _ _ h => h) (Or.inl ⟨by rfl, ?_⟩) hHeld ?_ ?_
   rotate_left
   ·rintro w' ⟨s0, s1, s2, s3, s4⟩
    go_simp
    with_reducible rfl
   rotate_left
   ·exact aP
   refine take_ (i := 1) (N := some 45) (v := ?_) (a' := ?_) #[true,true,false,true,true,true,false,false,true,false,false,false,false,false,false] rfl rfl (take_ofW HT_.out HW_.out (by kernel_rfl)) (fun _ _ _ h => h) (Or.inl ⟨by rfl, ?_⟩) hHeld ?_ ?_
   rotate_left
   ·rintro w' ⟨s0, s1, s2, s3, s4⟩
    go_simp
    with_reducible rfl
   rotate_left
   ·exact aP
   refine take_ (i := 2) (N := some 46) (v := ?_) (a' := ?_) #[true,true,true,true,true,true,false,false,true,false,false,false,false,false,false] rfl rfl (take_ofW HT_.out HW_.out (by kernel_rfl)) (fun _ _ _ h => h) (Or.inl ⟨by rfl, ?_⟩) hHeld ?_ ?_
   rotate_left
   ·rintro w' ⟨s0, s1, s2, s3, s4⟩
    go_simp
    with_reducible rfl
   rotate_left
   ·exact aP
   refine take_ (i := 6) (N := some 50) (v := ?_) (a' := ?_) #[true,true,true,true,true,true,true,false,true,false,false,false,false,false,false] rfl rfl (take_ofW HT_.out HW_.out (by kernel_rfl)) (fun _ _ _ h => h) (Or.inl ⟨by rfl, ?_⟩) hHeld ?_ ?_
   rotate_left
   ·rintro w' ⟨s0, s1, s2, s3, s4⟩
    go_simp
    with_reducible rfl
   rotate_left
   ·exact aP
   refine one_ (i := 7) (N := some 51) #[true,true,true,true,true,true,true,true,true,false,false,false,false,false,false] rfl rfl (one_of HT_.out (by kernel_rfl)) (by decide) (fun K hK => ?_)
   refine goes_ Try.func118 (by kernel_rfl) rfl #[.agg #[.int .i64 a0_0, .slice A0_1 l0_1.length c0_1], .agg #[.slice A1_0 l1_0.length c1_0, .slice A1_1 l1_1.length c1_1], .slice A705_0 (rd_L3 t702 x12_1).length c705_0] (by rfl) rfl rfl mM ?_
   with_reducible refine (spec_l8Round.calls k1 a0_0 _ _ l0_1 _ _ l1_0 _ _ l1_1 _ _ (rd_L3 t702 x12_1) t706 t709 _ ?side1 ?side2 ?side3 ?side4 ?side5 ?side6 ?side7 ?side8 A35.out).mono ?_
   (case side1 => exact cP (Kd.C_below HR0_1.out HB.out))
   (case side2 => exact HC0_1.out)
   (case side3 => exact cP (Kd.C_below HR1_0.out HB.out))
   (case side4 => exact HC1_0.out)
   (case side5 => exact cP (Kd.C_below HR1_1.out HB.out))
   (case side6 => exact HC1_1.out)
   (case side7 => exact cP (by repeat (first | (with_reducible exact HR705_0.out) | (with_reducible refine Kd.C_alloc ?_ _) | (with_reducible refine Kd.C_drewN ?_ _) | (with_reducible refine Kd.C_drew ?_) | exact HR705_0.out)))
   (case side8 => exact HC705_0.out)
   rintro e w41 ⟨v707, v710, rfl, ho0, ho1, hb⟩
   have HS4_ := (hb.cell (World.block_lt_of_cell? _ _ (hHeld.2.2.2.2))).trans (hHeld.2.2.2.2)
   refine ⟨_, rfl, ?_⟩
   have n0_ := aM (Kd.N_mono (Kd.N_told (Kd.N_told (Kd.N_old (by (with_reducible repeat (first | apply Kd.N_alloc | apply Kd.N_drewN | apply Kd.N_drew));exact HO_9.out) hb) (Kd.R_base ho0)) (Kd.R_base ho1)) (fun _ h_ => h_.1))
   have n1_ := aM (Kd.N_mono (Kd.N_told (Kd.N_told (Kd.N_old (by (with_reducible repeat (first | apply Kd.N_alloc | apply Kd.N_drewN | apply Kd.N_drew));exact HO_11.out) hb) (Kd.R_base ho0)) (Kd.R_base ho1)) (fun _ h_ => h_.1))
   have n2_ := aM (Kd.V_mono (Kd.V_told (Kd.V_told (Kd.V_old (by (with_reducible repeat (first | apply Kd.V_alloc | apply Kd.V_drewN | apply Kd.V_drew));exact HL705_0.out) hb) (Kd.R_base ho0)) (Kd.R_base ho1)) (fun _ h_ => h_.1))
   have n3_ := aM (Kd.R_lower (Kd.R_newM (M := fun k_ => (w.heap.size ≤ k_)) ho0 (below_size (by exact bB)) (fun k_ h_ => h_)) (below_size (by exact bB)))
   have n4_ := aM (Kd.R_lower (Kd.R_newM (M := fun k_ => (w.heap.size ≤ k_)) ho1 (below_size (by exact bB)) (fun k_ h_ => h_)) (below_size (by exact bB)))
   have n5_ := aM (blk_below (g := gb687) (o := .cells #[.int .i64 a0_0, .slice A0_1 l0_1.length c0_1] 31 (0, 0)) (by exact kP BK687.out) hb)
   have n6_ := aM (blk_below (g := gb688) (o := .cells #[.slice A1_0 l1_0.length c1_0, .slice A1_1 l1_1.length c1_1] 71 (0, 0)) (by exact kP BK688.out) hb)
   have n7_ := aM (Kd.C_below (by repeat (first | (with_reducible exact HR705_0.out) | (with_reducible refine Kd.C_alloc ?_ _) | (with_reducible refine Kd.C_drewN ?_ _) | (with_reducible refine Kd.C_drew ?_) | exact HR705_0.out)) hb)
   have n8_ := aM (below_step (by exact bB) hb)
   clear HO_9
   clear HO_11
   clear HL705_0
   clear BK687
   clear BK688
   clear HR705_0
   clear HB
   have HO_9 := n0_
   have HO_11 := n1_
   have HL705_0 := n2_
   have HO708 := n3_
   have HO711 := n4_
   have BK687 := n5_
   have BK688 := n6_
   have HR705_0 := n7_
   have HB := n8_
   clear n0_ n1_ n2_ n3_ n4_ n5_ n6_ n7_ n8_
   (try clear hb)
   (try clear hb2)
   (try clear hk)
   (try clear hi)
   (try clear ho0)
   (try clear ho1)
   obtain ⟨Ao42, co42, eo42⟩ := Kd.R_slice HO708.out
   (first | subst eo42 | (injection eo42 with f1_ f2_ f3_;have f4_ := f1_.symm;have f5_ := f3_.symm;clear f1_ f2_ f3_;subst f4_;subst f5_))
   obtain ⟨Ao43, co43, eo43⟩ := Kd.R_slice HO711.out
   (first | subst eo43 | (injection eo43 with f1_ f2_ f3_;have f4_ := f1_.symm;have f5_ := f3_.symm;clear f1_ f2_ f3_;subst f4_;subst f5_))
   refine hK.out _ _ ⟨(blk_cell BK687.out 0).trans rfl, (blk_cell BK687.out 1).trans rfl, (blk_cell BK688.out 0).trans rfl, (blk_cell BK688.out 1).trans rfl, HS4_⟩ (fun hHeld => ?_)
   clear hK K
   refine norm_ (a' := ?_) ?_ ?_
   rotate_left
   ·show Act.put _ (some 51) _ = _
    simp only [Act.put, List.setIfInBounds_toArray, List.set_cons_zero, List.set_cons_succ, i64_w, i32_w]
    rfl
   refine one_ (i := 9) (N := some 53) #[true,true,true,true,true,true,true,true,true,true,false,false,false,false,false] rfl rfl (one_of HT_.out (by kernel_rfl)) (by decide) (fun K hK => ?_)
   refine goes_ Try.func76 (by kernel_rfl) rfl #[.agg #[.int .i64 a0_0, .slice A0_1 l0_1.length c0_1], .agg #[.slice Ao42 t706.length co42, .slice Ao43 t709.length co43], .int .i64 a2] (by rfl) rfl rfl mM ?_
   with_reducible refine (ih k1 (by have := HK1.out;omega) a0_0 _ _ l0_1 _ _ t706 _ _ t709 a2 t712 t715 _ ?side1 ?side2 ?side3 ?side4 ?side5 ?side6 A36.out).mono ?_
   (case side1 => exact cP (Kd.C_below HR0_1.out HB.out))
   (case side2 => exact HC0_1.out)
   (case side3 => exact cP (Kd.R_reads' HO708.out).2.2)
   (case side4 => exact (Kd.R_reads' HO708.out).2.1)
   (case side5 => exact cP (Kd.R_reads' HO711.out).2.2)
   (case side6 => exact (Kd.R_reads' HO711.out).2.1)
   rintro e w44 ⟨v713, rfl, ho0, hb⟩
   have HS4_ := (hb.cell (World.block_lt_of_cell? _ _ (hHeld.2.2.2.2))).trans (hHeld.2.2.2.2)
   refine ⟨_, rfl, ?_⟩
   have n0_ := aM (Kd.N_elder' (by (with_reducible repeat (first | apply Kd.N_alloc | apply Kd.N_drewN | apply Kd.N_drew));exact HO_9.out) (Kd.N_base ho0) hb)
   have n1_ := aM (Kd.N_elder' (by (with_reducible repeat (first | apply Kd.N_alloc | apply Kd.N_drewN | apply Kd.N_drew));exact HO_11.out) (Kd.N_base ho0) hb)
   have n2_ := aM (Kd.V_elder' (by (with_reducible repeat (first | apply Kd.V_alloc | apply Kd.V_drewN | apply Kd.V_drew));exact HL705_0.out) (Kd.N_base ho0) hb)
   have n3_ := aM (Kd.R_below (by exact rP HO708.out) hb)
   have n4_ := aM (Kd.R_below (by exact rP HO711.out) hb)
   have n5_ := aM (Kd.N_lower (Kd.N_mono (ok' := fun k_ => (w.heap.size ≤ k_) ∧ some k_ ≠ (u9 : Value).ownBlock ∧ some k_ ≠ (.slice (some ad705) t702.length co39 : Value).ownBlock ∧ some k_ ≠ (.slice Ao42 t706.length co42 : Value).ownBlock ∧ some k_ ≠ (.slice Ao43 t709.length co43 : Value).ownBlock ∧ k_ ≠ gb687 ∧ k_ ≠ gb688) ho0 (fun k_ hk_ => ⟨(Nat.le_trans (below_size (by exact bB)) hk_), (Kd.fresh' (Kd.N_lt (by (with_reducible repeat (first | apply Kd.N_alloc | apply Kd.N_drewN | apply Kd.N_drew));exact HO_9.out)) k_ hk_), (Kd.fresh' (Kd.N_lt (by (with_reducible repeat (first | apply Kd.N_alloc | apply Kd.N_drewN | apply Kd.N_drew));exact HO_11.out)) k_ hk_), (Kd.fresh' (Kd.R_lt (by exact rP HO708.out)) k_ hk_), (Kd.fresh' (Kd.R_lt (by exact rP HO711.out)) k_ hk_), (Kd.freshB (g := gb687) (o := .cells #[.int .i64 a0_0, .slice A0_1 l0_1.length c0_1] 31 (0, 0)) (by exact kP BK687.out) k_ hk_), (Kd.freshB (g := gb688) (o := .cells #[.slice A1_0 l1_0.length c1_0, .slice A1_1 l1_1.length c1_1] 71 (0, 0)) (by exact kP BK688.out) k_ hk_)⟩)) (below_size (by exact bB)))
   have n6_ := aM (blk_below (g := gb687) (o := .cells #[.int .i64 a0_0, .slice A0_1 l0_1.length c0_1] 31 (0, 0)) (by exact kP BK687.out) hb)
   have n7_ := aM (blk_below (g := gb688) (o := .cells #[.slice A1_0 l1_0.length c1_0, .slice A1_1 l1_1.length c1_1] 71 (0, 0)) (by exact kP BK688.out) hb)
   have n8_ := aM (Kd.C_below (by repeat (first | (with_reducible exact HR705_0.out) | (with_reducible refine Kd.C_alloc ?_ _) | (with_reducible refine Kd.C_drewN ?_ _) | (with_reducible refine Kd.C_drew ?_) | exact HR705_0.out)) hb)
   have n9_ := aM (below_step (by exact bB) hb)
   clear HO_9
   clear HO_11
   clear HL705_0
   clear HO708
   clear HO711
   clear BK687
   clear BK688
   clear HR705_0
   clear HB
   have HO_9 := n0_
   have HO_11 := n1_
   have HL705_0 := n2_
   have HO708 := n3_
   have HO711 := n4_
   have HO714 := n5_
   have BK687 := n6_
   have BK688 := n7_
   have HR705_0 := n8_
   have HB := n9_
   clear n0_ n1_ n2_ n3_ n4_ n5_ n6_ n7_ n8_ n9_
   (try clear hb)
   (try clear hb2)
   (try clear hk)
   (try clear hi)
   (try clear ho0)
   refine hK.out _ _ ⟨(blk_cell BK687.out 0).trans rfl, (blk_cell BK687.out 1).trans rfl, (blk_cell BK688.out 0).trans rfl, (blk_cell BK688.out 1).trans rfl, HS4_⟩ (fun hHeld => ?_)
   clear hK K
   refine norm_ (a' := ?_) ?_ ?_
   rotate_left
   ·show Act.put _ (some 53) _ = _
    simp only [Act.put, List.setIfInBounds_toArray, List.set_cons_zero, List.set_cons_succ, i64_w, i32_w]
    rfl
   refine pure_ (i := 10) (N := some 43) (v := ?_) (a' := ?_) #[true,true,true,true,true,true,true,true,true,true,true,false,false,false,false] rfl rfl (any_of HT_.out (by kernel_rfl)) (fun _ _ _ h => h) (Or.inl ⟨by rfl, ?_⟩) ?_ ?_
   rotate_left
   ·intro w'
    go_simp
    with_reducible rfl
   rotate_left
   ·exact aP
   refine pure_ (i := 11) (N := some 54) (v := ?_) (a' := ?_) #[true,true,true,true,true,true,true,true,true,true,true,true,false,false,false] rfl rfl (any_of HT_.out (by kernel_rfl)) (fun _ _ _ h => h) (Or.inl ⟨by rfl, ?_⟩) ?_ ?_
   rotate_left
   ·intro w'
    go_simp
    with_reducible rfl
   rotate_left
   ·exact aP
   refine pure_ (i := 12) (N := some 55) (v := ?_) (a' := ?_) #[true,true,true,true,true,true,true,true,true,true,true,true,true,false,false] rfl rfl (any_of HT_.out (by kernel_rfl)) (fun _ _ _ h => h) (Or.inl ⟨by rfl, ?_⟩) ?_ ?_
   rotate_left
   ·intro w'
    go_simp
    with_reducible rfl
   rotate_left
   ·exact aP
   refine pure_ (i := 13) (N := some 13) (v := ?_) (a' := ?_) #[true,true,true,true,true,true,true,true,true,true,true,true,true,true,false] rfl rfl (any_of HT_.out (by kernel_rfl)) (fun _ _ _ h => h) (Or.inl ⟨by rfl, ?_⟩) ?_ ?_
   rotate_left
   ·intro w'
    go_simp
    with_reducible rfl
   rotate_left
   ·exact aP
   refine pure_ (i := 14) (N := some 14) (v := ?_) (a' := ?_) #[true,true,true,true,true,true,true,true,true,true,true,true,true,true,true] rfl rfl (any_of HT_.out (by kernel_rfl)) (fun _ _ _ h => h) (Or.inl ⟨by rfl, ?_⟩) ?_ ?_
   rotate_left
   ·intro w'
    go_simp
    with_reducible rfl
   rotate_left
   ·exact aP
   refine done_ (done_of HT_.out (by kernel_rfl)) ?_
   have p716 : 0 ≤ (x12_1 : Int) := oA
   have q716 : x12_1 < (t702.length : Int) := oA
   obtain ⟨ad716, A716_0, c716_0, e716, hx716_0, hl716_0, hi716_0⟩ := at_L3 (Kd.N_reads' HO_11.out).2.2 x12_1 p716 q716
   obtain rfl : ad705 = ad716 := (by injection e716)
   (first | (have h_ := hx716_0.symm.trans hx705_0;obtain ⟨rfl, rfl⟩ : A716_0 = A705_0 ∧ c716_0 = c705_0 := (by simpa using h_)) | (have h_ := hx716_0.symm.trans hw705_0;obtain ⟨rfl, rfl⟩ : A716_0 = A705_0 ∧ c716_0 = c705_0 := (by simpa using h_)) | (have h_ := hx716_0.symm.trans HS0_;obtain ⟨rfl, rfl⟩ : A716_0 = A705_0 ∧ c716_0 = c705_0 := (by simpa using h_)) | (have h_ := hx716_0.symm.trans HS1_;obtain ⟨rfl, rfl⟩ : A716_0 = A705_0 ∧ c716_0 = c705_0 := (by simpa using h_)) | (have h_ := hx716_0.symm.trans HS2_;obtain ⟨rfl, rfl⟩ : A716_0 = A705_0 ∧ c716_0 = c705_0 := (by simpa using h_)) | (have h_ := hx716_0.symm.trans HS3_;obtain ⟨rfl, rfl⟩ : A716_0 = A705_0 ∧ c716_0 = c705_0 := (by simpa using h_)) | (have h_ := hx716_0.symm.trans HS4_;obtain ⟨rfl, rfl⟩ : A716_0 = A705_0 ∧ c716_0 = c705_0 := (by simpa using h_)) | (have h_ := hx716_0.symm.trans HS5_;obtain ⟨rfl, rfl⟩ : A716_0 = A705_0 ∧ c716_0 = c705_0 := (by simpa using h_)) | (have h_ := hx716_0.symm.trans HS6_;obtain ⟨rfl, rfl⟩ : A716_0 = A705_0 ∧ c716_0 = c705_0 := (by simpa using h_)) | (have h_ := hx716_0.symm.trans HS7_;obtain ⟨rfl, rfl⟩ : A716_0 = A705_0 ∧ c716_0 = c705_0 := (by simpa using h_)) | (have h_ := hx716_0.symm.trans HS8_;obtain ⟨rfl, rfl⟩ : A716_0 = A705_0 ∧ c716_0 = c705_0 := (by simpa using h_)) | (have h_ := hx716_0.symm.trans HS9_;obtain ⟨rfl, rfl⟩ : A716_0 = A705_0 ∧ c716_0 = c705_0 := (by simpa using h_)))
   obtain ⟨ce716, hce716, hMe716, hcc716⟩ := Kd.N_get HO_11.out [] x12_1 p716 (by first | exact q716 | exact oA | (have e_ := (Kd.N_reads' HO_11.out).1;omega))
   obtain ⟨ua716_0, uc716_0, rfl, ul716_0, ge716_0⟩ := Kd.FK_slice_open hMe716
   have hv716_0 := hcc716 0 _ rfl
   rw [Nat.add_zero, show ((Kd.slice 3 (Kd.int .i64))).sz = 1 from rfl, Nat.mul_one] at hv716_0
   replace hv716_0 := Option.some.inj (hv716_0.symm.trans hx716_0)
   injection hv716_0 with hva_ hvn_ hvc_
   rw [hva_] at ge716_0
   rw [hvc_] at ul716_0
   have HL716_0 := aM (show Kd.V (Kd.int .i64) 3 _ w.heap.size _ _ (rd_L3 t702 x12_1) from Kd.V_mk ul716_0 ge716_0)
   clear hva_ hvn_ hvc_ ge716_0 ul716_0
   clear hcc716 hce716
   have HR716_0 := Aside0.mk hi716_0
   have HC716_0 := Aside0.mk hl716_0
   clear hi716_0 hl716_0
   replace p716 := eq_true p716
   replace q716 := eq_true q716
   try go_wp2_with (first | ((with_reducible refine gate_dst (N := 63) rfl ?_);refine Kd.N_lit (Kd.slice 3 (Kd.int .i64)) _ 28 ?hg (N' := 63) ?hd (xs := ([rd_L3 t702 x12_1] : List (List Int))) (inner := [.slice A716_0 (rd_L3 t702 x12_1).length c716_0]) (ok := (fun k_ => (w.heap.size ≤ k_) ∧ some k_ ≠ (u9 : Value).ownBlock ∧ some k_ ≠ (.slice (some ad705) t702.length co39 : Value).ownBlock ∧ some k_ ≠ (.slice Ao42 t706.length co42 : Value).ownBlock ∧ some k_ ≠ (.slice Ao43 t709.length co43 : Value).ownBlock ∧ some k_ ≠ (v713 : Value).ownBlock ∧ k_ ≠ gb687 ∧ k_ ≠ gb688)) (okp := (fun k_ => (w.heap.size ≤ k_) ∧ some k_ ≠ (u9 : Value).ownBlock ∧ some k_ ≠ (.slice (some ad705) t702.length co39 : Value).ownBlock ∧ some k_ ≠ (.slice Ao42 t706.length co42 : Value).ownBlock ∧ some k_ ≠ (.slice Ao43 t709.length co43 : Value).ownBlock ∧ some k_ ≠ (v713 : Value).ownBlock ∧ k_ ≠ gb687 ∧ k_ ≠ gb688)) ?hr ?hp (fun _ hk => hk) ((show ∀ k_, w44.heap.size ≤ k_ → (fun k_ => (w.heap.size ≤ k_) ∧ some k_ ≠ (u9 : Value).ownBlock ∧ some k_ ≠ (.slice (some ad705) t702.length co39 : Value).ownBlock ∧ some k_ ≠ (.slice Ao42 t706.length co42 : Value).ownBlock ∧ some k_ ≠ (.slice Ao43 t709.length co43 : Value).ownBlock ∧ some k_ ≠ (v713 : Value).ownBlock ∧ k_ ≠ gb687 ∧ k_ ≠ gb688) k_ from fun k_ hk => ⟨(Nat.le_trans (below_size (by exact bB)) hk), Kd.fresh' (Kd.N_lt (by (with_reducible repeat (first | apply Kd.N_alloc | apply Kd.N_drewN | apply Kd.N_drew));exact HO_9.out)) k_ hk, Kd.fresh' (Kd.N_lt (by (with_reducible repeat (first | apply Kd.N_alloc | apply Kd.N_drewN | apply Kd.N_drew));exact HO_11.out)) k_ hk, Kd.fresh' (Kd.R_lt (by exact rP HO708.out)) k_ hk, Kd.fresh' (Kd.R_lt (by exact rP HO711.out)) k_ hk, Kd.fresh' (Kd.N_lt (by (with_reducible repeat (first | apply Kd.N_alloc | apply Kd.N_drewN | apply Kd.N_drew));exact HO714.out)) k_ hk, Kd.freshB (g := gb687) (o := .cells #[.int .i64 a0_0, .slice A0_1 l0_1.length c0_1] 31 (0, 0)) (by exact kP BK687.out) k_ hk, Kd.freshB (g := gb688) (o := .cells #[.slice A1_0 l1_0.length c1_0, .slice A1_1 l1_1.length c1_1] 71 (0, 0)) (by exact kP BK688.out) k_ hk⟩) _ (Nat.le_refl _)) (Below.refl _ _) (Nat.le_refl _) (by simp) ?_;(case hd => rfl);(case hg => rfl);(case hr => first | (go_simp;done) | (go_simp;rfl));(case hp => exact (Reps.one (show Kd.FK (Kd.slice 3 (Kd.int .i64)) _ _ (rd_L3 t702 x12_1) [.slice A716_0 (rd_L3 t702 x12_1).length c716_0] from (Kd.FK_slice_mk (Kd.V_reads' (Kd.V_mono (ok' := (fun k_ => (w.heap.size ≤ k_) ∧ some k_ ≠ (u9 : Value).ownBlock ∧ some k_ ≠ (.slice (some ad705) t702.length co39 : Value).ownBlock ∧ some k_ ≠ (.slice Ao42 t706.length co42 : Value).ownBlock ∧ some k_ ≠ (.slice Ao43 t709.length co43 : Value).ownBlock ∧ some k_ ≠ (v713 : Value).ownBlock ∧ k_ ≠ gb687 ∧ k_ ≠ gb688)) (HL716_0.out) (fun k_ hk => ⟨hk.1.1.1.1.1, ⟨hk.1.1.1.1.2.1, ⟨hk.2, ⟨hk.1.1.1.2, ⟨hk.1.1.2, ⟨hk.1.2, ⟨hk.1.1.1.1.2.2.1, hk.1.1.1.1.2.2.2⟩⟩⟩⟩⟩⟩⟩))).2.1 (Kd.V_F (Kd.V_mono (ok' := (fun k_ => (w.heap.size ≤ k_) ∧ some k_ ≠ (u9 : Value).ownBlock ∧ some k_ ≠ (.slice (some ad705) t702.length co39 : Value).ownBlock ∧ some k_ ≠ (.slice Ao42 t706.length co42 : Value).ownBlock ∧ some k_ ≠ (.slice Ao43 t709.length co43 : Value).ownBlock ∧ some k_ ≠ (v713 : Value).ownBlock ∧ k_ ≠ gb687 ∧ k_ ≠ gb688)) (HL716_0.out) (fun k_ hk => ⟨hk.1.1.1.1.1, ⟨hk.1.1.1.1.2.1, ⟨hk.2, ⟨hk.1.1.1.2, ⟨hk.1.1.2, ⟨hk.1.2, ⟨hk.1.1.1.1.2.2.1, hk.1.1.1.1.2.2.2⟩⟩⟩⟩⟩⟩⟩))))) (Reps.none _ _)));intro v718 w45 ho46 hb hg_ hnew_;clear hg_ hnew_;(first | rw [← Ny717.out] at ho46 | (simp only [Int.reduceToNat] at ho46;rw [← Ny717.out] at ho46));have n0_ := aM (Kd.N_elder' (by (with_reducible repeat (first | apply Kd.N_alloc | apply Kd.N_drewN | apply Kd.N_drew));exact HO_9.out) (Kd.N_base ho46) hb);have n1_ := aM (Kd.N_elder' (by (with_reducible repeat (first | apply Kd.N_alloc | apply Kd.N_drewN | apply Kd.N_drew));exact HO_11.out) (Kd.N_base ho46) hb);have n2_ := aM (Kd.V_elder' (by (with_reducible repeat (first | apply Kd.V_alloc | apply Kd.V_drewN | apply Kd.V_drew));exact HL705_0.out) (Kd.N_base ho46) hb);have n3_ := aM (Kd.R_below (by exact rP HO708.out) hb);have n4_ := aM (Kd.R_below (by exact rP HO711.out) hb);have n5_ := aM (Kd.N_elder' (by (with_reducible repeat (first | apply Kd.N_alloc | apply Kd.N_drewN | apply Kd.N_drew));exact HO714.out) (Kd.N_base ho46) hb);have n6_ := aM (Kd.V_elder' (by (with_reducible repeat (first | apply Kd.V_alloc | apply Kd.V_drewN | apply Kd.V_drew));exact HL716_0.out) (Kd.N_base ho46) hb);have n7_ := aM (Kd.N_lower ho46 (below_size (by exact bB)));have n8_ := aM (blk_below (g := gb687) (o := .cells #[.int .i64 a0_0, .slice A0_1 l0_1.length c0_1] 31 (0, 0)) (by exact kP BK687.out) hb);have n9_ := aM (blk_below (g := gb688) (o := .cells #[.slice A1_0 l1_0.length c1_0, .slice A1_1 l1_1.length c1_1] 71 (0, 0)) (by exact kP BK688.out) hb);have n10_ := aM (Kd.C_below (by repeat (first | (with_reducible exact HR705_0.out) | (with_reducible refine Kd.C_alloc ?_ _) | (with_reducible refine Kd.C_drewN ?_ _) | (with_reducible refine Kd.C_drew ?_) | exact HR705_0.out)) hb);have n11_ := aM (Kd.C_below (by repeat (first | (with_reducible exact HR716_0.out) | (with_reducible refine Kd.C_alloc ?_ _) | (with_reducible refine Kd.C_drewN ?_ _) | (with_reducible refine Kd.C_drew ?_) | exact HR716_0.out)) hb);have n12_ := aM (below_step (by exact bB) hb);clear HO_9;clear HO_11;clear HL705_0;clear HO708;clear HO711;clear HO714;clear HL716_0;clear BK687;clear BK688;clear HR705_0;clear HR716_0;clear HB;have HO_9 := n0_;have HO_11 := n1_;have HL705_0 := n2_;have HO708 := n3_;have HO711 := n4_;have HO714 := n5_;have HL716_0 := n6_;have HO719 := n7_;have BK687 := n8_;have BK688 := n9_;have HR705_0 := n10_;have HR716_0 := n11_;have HB := n12_;clear n0_ n1_ n2_ n3_ n4_ n5_ n6_ n7_ n8_ n9_ n10_ n11_ n12_;clear hb ho46;obtain ⟨Ao48, co48, eo48⟩ := Kd.N_slice HO714.out;subst eo48) | ((with_reducible refine gate_builtin (b := .append) (xs := #[.tmp 63, .tmp 64]) rfl ?_);at_builtin;refine Kd.N_append_rows (Kd.slice 3 (Kd.int .i64)) (w0 := w) w.heap.size rfl (.tmp 63) (.tmp 64) 25 28 (.slice none 0 0) 24 rfl Try.underlying25 info28 rfl (by decide) (by omega) v718 y717 t712 _ _ _ (fun k_ => (w.heap.size ≤ k_) ∧ some k_ ≠ (u9 : Value).ownBlock ∧ some k_ ≠ (.slice (some ad705) t702.length co39 : Value).ownBlock ∧ some k_ ≠ (.slice Ao42 t706.length co42 : Value).ownBlock ∧ some k_ ≠ (.slice Ao43 t709.length co43 : Value).ownBlock ∧ k_ ≠ gb687 ∧ k_ ≠ gb688) (fun k_ => ((fun k_ => (w.heap.size ≤ k_) ∧ some k_ ≠ (u9 : Value).ownBlock ∧ some k_ ≠ (.slice (some ad705) t702.length co39 : Value).ownBlock ∧ some k_ ≠ (.slice Ao42 t706.length co42 : Value).ownBlock ∧ some k_ ≠ (.slice Ao43 t709.length co43 : Value).ownBlock ∧ k_ ≠ gb687 ∧ k_ ≠ gb688)) k_ ∧ some k_ ≠ (v718 : Value).ownBlock) rfl rfl ?aO ?aR (fun _ hk => hk) ?aF ?aB ?aS ?aL ?_;(case aR => exact (by skip;exact Kd.N_F (Kd.N_mono (ok' := (fun k_ => ((fun k_ => (w.heap.size ≤ k_) ∧ some k_ ≠ (u9 : Value).ownBlock ∧ some k_ ≠ (.slice (some ad705) t702.length co39 : Value).ownBlock ∧ some k_ ≠ (.slice Ao42 t706.length co42 : Value).ownBlock ∧ some k_ ≠ (.slice Ao43 t709.length co43 : Value).ownBlock ∧ k_ ≠ gb687 ∧ k_ ≠ gb688)) k_ ∧ some k_ ≠ (v718 : Value).ownBlock)) (HO714.out) (fun k_ hk => ⟨⟨hk.1.1, ⟨hk.1.2.1, ⟨hk.1.2.2.1, ⟨hk.1.2.2.2.1, ⟨hk.1.2.2.2.2.1, ⟨hk.1.2.2.2.2.2.1, hk.1.2.2.2.2.2.2⟩⟩⟩⟩⟩⟩, hk.2⟩))));(case aB => exact (by exact bB));(case aF => exact (fun k_ hk => ⟨(Nat.le_trans (below_size (by exact bB)) hk), Kd.fresh' (Kd.N_lt (by (with_reducible repeat (first | apply Kd.N_alloc | apply Kd.N_drewN | apply Kd.N_drew));exact HO_9.out)) k_ hk, Kd.fresh' (Kd.N_lt (by (with_reducible repeat (first | apply Kd.N_alloc | apply Kd.N_drewN | apply Kd.N_drew));exact HO_11.out)) k_ hk, Kd.fresh' (Kd.R_lt (by exact rP HO708.out)) k_ hk, Kd.fresh' (Kd.R_lt (by exact rP HO711.out)) k_ hk, Kd.freshB (g := gb687) (o := .cells #[.int .i64 a0_0, .slice A0_1 l0_1.length c0_1] 31 (0, 0)) (by exact kP BK687.out) k_ hk, Kd.freshB (g := gb688) (o := .cells #[.slice A1_0 l1_0.length c1_0, .slice A1_1 l1_1.length c1_1] 71 (0, 0)) (by exact kP BK688.out) k_ hk⟩));(case aO => exact (by (with_reducible repeat (first | apply Kd.N_alloc | apply Kd.N_drewN | apply Kd.N_drew));exact Kd.N_mono HO719.out (fun _ hk => ⟨hk.1, ⟨hk.2.1, ⟨hk.2.2.1, ⟨hk.2.2.2.1, ⟨hk.2.2.2.2.1, ⟨hk.2.2.2.2.2.2.1, hk.2.2.2.2.2.2.2⟩⟩⟩⟩⟩⟩)));(case aS => exact (below_size (by exact bB)));(case aL => have := LMc38.out;omega);intro v721 w47 ho hb hg hat;rw [← Ny720.out] at ho;have n0_ := aM (Kd.N_afterv (ok := (fun k_ => (w.heap.size ≤ k_) ∧ some k_ ≠ (.slice (some ad705) t702.length co39 : Value).ownBlock ∧ some k_ ≠ (.slice Ao42 t706.length co42 : Value).ownBlock ∧ some k_ ≠ (.slice Ao43 t709.length co43 : Value).ownBlock ∧ some k_ ≠ (.slice Ao48 t712.length co48 : Value).ownBlock ∧ k_ ≠ gb687 ∧ k_ ≠ gb688)) (by (with_reducible repeat (first | apply Kd.N_alloc | apply Kd.N_drewN | apply Kd.N_drew));exact Kd.N_mono HO_9.out (fun _ hk => ⟨⟨hk.1.1.1.1.1, ⟨hk.1.1.1.1.2.1, ⟨hk.1.1.1.2, ⟨hk.1.1.2, ⟨hk.1.2, ⟨hk.1.1.1.1.2.2.1, hk.1.1.1.1.2.2.2⟩⟩⟩⟩⟩⟩, hk.2⟩)) hg hat);have n1_ := aM (Kd.N_afterv (ok := (fun k_ => (w.heap.size ≤ k_) ∧ some k_ ≠ (u9 : Value).ownBlock ∧ some k_ ≠ (.slice Ao42 t706.length co42 : Value).ownBlock ∧ some k_ ≠ (.slice Ao43 t709.length co43 : Value).ownBlock ∧ some k_ ≠ (.slice Ao48 t712.length co48 : Value).ownBlock ∧ k_ ≠ gb687 ∧ k_ ≠ gb688)) (by (with_reducible repeat (first | apply Kd.N_alloc | apply Kd.N_drewN | apply Kd.N_drew));exact Kd.N_mono HO_11.out (fun _ hk => ⟨⟨hk.1.1.1.1.1, ⟨hk.1.1.1.1.2.1, ⟨hk.1.1.1.2, ⟨hk.1.1.2, ⟨hk.1.2, ⟨hk.1.1.1.1.2.2.1, hk.1.1.1.1.2.2.2⟩⟩⟩⟩⟩⟩, hk.2⟩)) hg hat);have n2_ := aM (blk_grown (g := gb687) (o := .cells #[.int .i64 a0_0, .slice A0_1 l0_1.length c0_1] 31 (0, 0)) (by exact kP BK687.out) hg (Kd.N_ne HO719.out BK687.out (by decide)));have n3_ := aM (blk_grown (g := gb688) (o := .cells #[.slice A1_0 l1_0.length c1_0, .slice A1_1 l1_1.length c1_1] 71 (0, 0)) (by exact kP BK688.out) hg (Kd.N_ne HO719.out BK688.out (by decide)));have n4_ := aM (Kd.V_afterv (ok := (fun k_ => (w.heap.size ≤ k_) ∧ some k_ ≠ (u9 : Value).ownBlock ∧ some k_ ≠ (.slice (some ad705) t702.length co39 : Value).ownBlock ∧ some k_ ≠ (.slice Ao42 t706.length co42 : Value).ownBlock ∧ some k_ ≠ (.slice Ao43 t709.length co43 : Value).ownBlock ∧ some k_ ≠ (.slice Ao48 t712.length co48 : Value).ownBlock ∧ k_ ≠ gb687 ∧ k_ ≠ gb688)) (by (with_reducible repeat (first | apply Kd.V_alloc | apply Kd.V_drewN | apply Kd.V_drew));exact Kd.V_mono HL705_0.out (fun _ hk => ⟨⟨hk.1.1.1.1.1.1, ⟨hk.1.1.1.1.1.2.1, ⟨hk.1.1.1.1.2, ⟨hk.1.1.1.2, ⟨hk.1.1.2, ⟨hk.1.2, ⟨hk.1.1.1.1.1.2.2.1, hk.1.1.1.1.1.2.2.2⟩⟩⟩⟩⟩⟩⟩, hk.2⟩)) hg hat);have n5_ := aM (Kd.R_over' (by exact rP HO708.out) (Kd.N_typed (by (with_reducible repeat (first | apply Kd.N_alloc | apply Kd.N_drewN | apply Kd.N_drew));exact HO719.out)) (by decide) hg);have n6_ := aM (Kd.R_over' (by exact rP HO711.out) (Kd.N_typed (by (with_reducible repeat (first | apply Kd.N_alloc | apply Kd.N_drewN | apply Kd.N_drew));exact HO719.out)) (by decide) hg);have n7_ := aM (Kd.N_afterv (ok := (fun k_ => (w.heap.size ≤ k_) ∧ some k_ ≠ (u9 : Value).ownBlock ∧ some k_ ≠ (.slice (some ad705) t702.length co39 : Value).ownBlock ∧ some k_ ≠ (.slice Ao42 t706.length co42 : Value).ownBlock ∧ some k_ ≠ (.slice Ao43 t709.length co43 : Value).ownBlock ∧ k_ ≠ gb687 ∧ k_ ≠ gb688)) (by (with_reducible repeat (first | apply Kd.N_alloc | apply Kd.N_drewN | apply Kd.N_drew));exact HO714.out) hg hat);have n8_ := aM (Kd.V_afterv (ok := (fun k_ => (w.heap.size ≤ k_) ∧ some k_ ≠ (u9 : Value).ownBlock ∧ some k_ ≠ (.slice (some ad705) t702.length co39 : Value).ownBlock ∧ some k_ ≠ (.slice Ao42 t706.length co42 : Value).ownBlock ∧ some k_ ≠ (.slice Ao43 t709.length co43 : Value).ownBlock ∧ some k_ ≠ (.slice Ao48 t712.length co48 : Value).ownBlock ∧ k_ ≠ gb687 ∧ k_ ≠ gb688)) (by (with_reducible repeat (first | apply Kd.V_alloc | apply Kd.V_drewN | apply Kd.V_drew));exact Kd.V_mono HL716_0.out (fun _ hk => ⟨⟨hk.1.1.1.1.1.1, ⟨hk.1.1.1.1.1.2.1, ⟨hk.1.2, ⟨hk.1.1.1.1.2, ⟨hk.1.1.1.2, ⟨hk.1.1.2, ⟨hk.1.1.1.1.1.2.2.1, hk.1.1.1.1.1.2.2.2⟩⟩⟩⟩⟩⟩⟩, hk.2⟩)) hg hat);have n9_ := aM (hb);have n10_ := aM (ho);clear HO_9;clear HO_11;clear BK687;clear BK688;clear HL705_0;clear HO708;clear HO711;clear HO714;clear HL716_0;clear HB;clear HO719;have HO_9 := n0_;have HO_11 := n1_;have BK687 := n2_;have BK688 := n3_;have HL705_0 := n4_;have HO708 := n5_;have HO711 := n6_;have HO714 := n7_;have HL716_0 := n8_;have HB := n9_;have HO722 := n10_;clear n0_ n1_ n2_ n3_ n4_ n5_ n6_ n7_ n8_ n9_ n10_;clear ho hb hg hat))
   go_roundg k1
   case measure => have := HK1.out;omega
   case rel => exact ⟨(y720), (t715), (wrap64 (x12_1 + 1)), (by first | rfl | (simp;done) | (simp [*];done)), (by first | rfl | (simp;done) | (simp [*];done)), H', ⟨by have := HK1.out;omega⟩, ⟨by (with_reducible repeat (first | apply Kd.N_alloc | apply Kd.N_drewN | apply Kd.N_drew));exact Kd.N_mono HO722.out (fun _ hk => ⟨hk.1, ⟨hk.2.2.1, ⟨hk.2.2.2.2.2.1, hk.2.2.2.2.2.2⟩⟩⟩)⟩, ⟨by (with_reducible repeat (first | apply Kd.N_alloc | apply Kd.N_drewN | apply Kd.N_drew));exact Kd.N_mono HO_11.out (fun _ hk => ⟨hk.1.1, ⟨hk.2, ⟨hk.1.2.2.2.2.2.1, hk.1.2.2.2.2.2.2⟩⟩⟩)⟩, ⟨by exact kP BK687.out⟩, ⟨by exact kP BK688.out⟩, ⟨by exact bB⟩⟩


/-! ### spec_SavedSum: function 32 -/
mutual
def spec_SavedSum.j0 : Nat → Int → Bool → Int → List (S119) → Option (Int × Bool)
 | 0, _, _, _, _ => none
 | k + 1, x1, x17, x724000, x724001 => if x17 = true then (some (0, false)) else (spec_SavedSum.l0 k x1 0 0 x724000 x724001)
def spec_SavedSum.l0 : Nat → Int → Int → Int → Int → List (S119) → Option (Int × Bool)
 | 0, _, _, _, _, _ => none
 | k + 1, x1, x6, x7, x724000, x724001 => if x7 < x724000 then ((spec_l8Best.f k x724000 x724001 (([x7] : List Int)) ([] : List Int) x1).bind fun bt729 => (spec_SavedSum.l0 k x1 (wrap64 (x6 + bt729.2)) (wrap64 (x7 + 1)) x724000 x724001)) else (some (x6, true))
end
def spec_SavedSum.f (k : Nat) (a0_0 : Int) (l0_1 : List (S119)) (a1 : Int) : Option (Int × Bool) := (spec_l2Good.f a0_0 l0_1).bind fun t724 => (if t724 = true then ((spec_l1In.f a1 0 3).bind fun t725 => (spec_SavedSum.j0 k a1 (!t725) a0_0 l0_1)) else (spec_SavedSum.j0 k a1 true a0_0 l0_1))
theorem spec_SavedSum.mono_l : ∀ k, (∀ y0 y1 y2 y3, LeO (spec_SavedSum.j0 k y0 y1 y2 y3) (spec_SavedSum.j0 (k + 1) y0 y1 y2 y3)) ∧ (∀ y0 y1 y2 y3 y4, LeO (spec_SavedSum.l0 k y0 y1 y2 y3 y4) (spec_SavedSum.l0 (k + 1) y0 y1 y2 y3 y4))
 | 0 => ⟨fun _ _ _ _ r h => by simp [spec_SavedSum.j0] at h, fun _ _ _ _ _ r h => by simp [spec_SavedSum.l0] at h⟩
 | k + 1 => by
  obtain ⟨ih0, ih1⟩ := spec_SavedSum.mono_l k
  refine ⟨?_, ?_⟩
  ·intro y0 y1 y2 y3
   unfold spec_SavedSum.j0
   repeat' first
   | (with_reducible exact ih0 _ _ _ _)
   | (with_reducible exact ih1 _ _ _ _ _)
   | (with_reducible exact spec_l8Best.mono _ _ _ _ _ _)
   | (with_reducible exact LeO.refl _)
   | (with_reducible exact LeO.none _)
   | (with_reducible refine LeO.ite ?_ ?_)
   | (with_reducible refine LeO.bind ?_ (fun _ => ?_))
   | exact ih0 _ _ _ _
   | exact ih1 _ _ _ _ _
   | exact spec_l8Best.mono _ _ _ _ _ _
   | exact LeO.none _
   | refine LeO.ite ?_ ?_
   | refine LeO.bind ?_ (fun _ => ?_)
  ·intro y0 y1 y2 y3 y4
   unfold spec_SavedSum.l0
   repeat' first
   | (with_reducible exact ih0 _ _ _ _)
   | (with_reducible exact ih1 _ _ _ _ _)
   | (with_reducible exact spec_l8Best.mono _ _ _ _ _ _)
   | (with_reducible exact LeO.refl _)
   | (with_reducible exact LeO.none _)
   | (with_reducible refine LeO.ite ?_ ?_)
   | (with_reducible refine LeO.bind ?_ (fun _ => ?_))
   | exact ih0 _ _ _ _
   | exact ih1 _ _ _ _ _
   | exact spec_l8Best.mono _ _ _ _ _ _
   | exact LeO.none _
   | refine LeO.ite ?_ ?_
   | refine LeO.bind ?_ (fun _ => ?_)
theorem spec_SavedSum.mono : ∀ a0 a1 a2 k, LeO (spec_SavedSum.f k a0 a1 a2) (spec_SavedSum.f (k + 1) a0 a1 a2) := by
 intro a0 a1 a2 k
 obtain ⟨ih0, ih1⟩ := spec_SavedSum.mono_l k
 unfold spec_SavedSum.f
 repeat' first
   | (with_reducible exact ih0 _ _ _ _)
   | (with_reducible exact ih1 _ _ _ _ _)
   | (with_reducible exact spec_l8Best.mono _ _ _ _ _ _)
   | (with_reducible exact LeO.refl _)
   | (with_reducible exact LeO.none _)
   | (with_reducible refine LeO.ite ?_ ?_)
   | (with_reducible refine LeO.bind ?_ (fun _ => ?_))
   | exact ih0 _ _ _ _
   | exact ih1 _ _ _ _ _
   | exact spec_l8Best.mono _ _ _ _ _ _
   | exact LeO.none _
   | refine LeO.ite ?_ ?_
   | refine LeO.bind ?_ (fun _ => ?_)
set_option maxHeartbeats 8000000 in
set_option maxRecDepth 100000 in
theorem spec_SavedSum.calls (k : Nat) (a0_0 : Int) (A0_1 : Option Addr) (c0_1 : Nat) (l0_1 : List (S119)) (a1 : Int) (r1 : Int) (r2 : Bool) (w : World) (hr0_1 : Kd.C k119 w A0_1 l0_1.length l0_1) (hc0_1 : l0_1.length ≤ c0_1) (h : spec_SavedSum.f k a0_0 l0_1 a1 = some (r1, r2)) :
  Calls Try.prog 32 #[.agg #[.int .i64 a0_0, .slice A0_1 l0_1.length c0_1], .int .i64 a1] w fun e w' => e = .returned (.tuple #[.int .i64 r1, .bool r2]) ∧ Below w.heap.size w w' := by
 have hu31 := Try.underlying31
 have hu71 := Try.underlying71
 have HR0_1 := Aside0.mk hr0_1
 have HC0_1 := Aside0.mk hc0_1
 clear hr0_1 hc0_1
 have HB := aM (Below.refl w.heap.size w)
 have H : ((spec_l2Good.f a0_0 l0_1).bind fun t724 => (if t724 = true then ((spec_l1In.f a1 0 3).bind fun t725 => (spec_SavedSum.j0 k a1 (!t725) a0_0 l0_1)) else (spec_SavedSum.j0 k a1 true a0_0 l0_1))) = some (r1, r2) := h
 clear h
 have HC3 := Aside0.mk H
 clear H
 go_enter Try.func32, Try.ntmps32
 go_upto_region 1 with (first | ((with_reducible refine gate_dst (N := 2) rfl ?_);refine box_event ?hg (N := 2) ?hd (cs := #[.int .i64 a0_0, .slice A0_1 l0_1.length c0_1]) (t := 31) ?hr ?_;(case hd => rfl);(case hg => rfl);(case hr => first | (go_simp;done) | (go_simp;rfl));intro gb723 hg w4 hbox hb;have n0_ := aM (below_step (by exact bB) hb);have n1_ := aM (hbox);have n2_ := aM ((by rw [hg];exact (below_size (by exact bB)) : w.heap.size ≤ gb723));have n3_ := aM ((by rw [hg];exact (below_size (by exact bB)) : w.heap.size ≤ gb723));clear HB;have HB := n0_;have BK723 := n1_;have GW723 := n2_;have GE723 := n3_;clear n0_ n1_ n2_ n3_;clear hb hbox hg))
 (try simp only [Act.put, List.setIfInBounds_toArray, List.set_cons_zero, List.set_cons_succ])
 go_cut [17] (fun v17 wc => ∃ (kq : Nat) (x17_2 : Bool), v17 = .bool x17_2 ∧ Aside0 (spec_SavedSum.j0 kq a1 x17_2 a0_0 l0_1 = some (r1, r2)) ∧ Aside0 (kq ≤ k) ∧ Aside0 (wc.heap[gb723]? = some (.cells #[.int .i64 a0_0, (.slice A0_1 l0_1.length c0_1)] 31 (0, 0))) ∧ Aside0 (Below w.heap.size w wc))
 case first =>
  have H := HC3.out
  clear HC3
  replace H := Option.bind_eq_some_iff.mp H
  obtain ⟨t724, A50, H⟩ := H
  replace H : (if t724 = true then ((spec_l1In.f a1 0 3).bind fun t725 => (spec_SavedSum.j0 k a1 (!t725) a0_0 l0_1)) else (spec_SavedSum.j0 k a1 true a0_0 l0_1)) = some (r1, r2) := H
  have A5 := Aside0.mk A50
  clear A50
  by_cases c6 : t724 = true
  rotate_left
  ·replace c6 := Bool.eq_false_iff.mpr c6
   subst c6
   have H1 : (spec_SavedSum.j0 k a1 true a0_0 l0_1) = some (r1, r2) := by rw [if_neg (show ¬ (false = true) by decide)] at H;exact H
   clear H
   have H := H1
   clear H1
   have H' := Aside0.mk H
   clear H
   have hcz10_0 : w4.cell? ⟨gb723, 0, none⟩ = some (.int .i64 a0_0) := (blk_cell BK723.out 0).trans rfl
   have hcz10_1 : w4.cell? ⟨gb723, 1, none⟩ = some (.slice A0_1 l0_1.length c0_1) := (blk_cell BK723.out 1).trans rfl
   have hfz10_0 := blk_frozen BK723.out 0
   have hfz10_1 := blk_frozen BK723.out 1
   go_wp2_with (first | ((with_reducible refine gate_callee (f := 83) rfl ?_);refine goesL_ (some 11) rfl rfl Try.func83 (by kernel_rfl) rfl #[.agg #[.int .i64 a0_0, .slice A0_1 l0_1.length c0_1]] rfl mM ?_;(with_reducible refine (spec_l2Good.calls a0_0 _ _ l0_1 false _ ?side1 ?side2 A5.out).mono ?_);(case side1 => exact cP (Kd.C_below HR0_1.out HB.out));(case side2 => exact HC0_1.out);rintro e w11 ⟨rfl, hb⟩;refine ⟨_, rfl, ?_⟩;have n0_ := aM (blk_below (g := gb723) (o := .cells #[.int .i64 a0_0, .slice A0_1 l0_1.length c0_1] 31 (0, 0)) (by exact kP BK723.out) hb);have n1_ := aM (below_step (by exact bB) hb);clear BK723;clear HB;have BK723 := n0_;have HB := n1_;clear n0_ n1_;(try clear hb);(try clear hb2);(try clear hk);(try clear hi)))
   go_meet
   case rel => exact ⟨_, (true), (by first | rfl | (simp;done) | (simp [*];done)), H', ⟨by first | omega | exact Nat.le_refl _⟩, ⟨by exact kP BK723.out⟩, ⟨by exact bB⟩⟩
  subst c6
  have H1 : ((spec_l1In.f a1 0 3).bind fun t725 => (spec_SavedSum.j0 k a1 (!t725) a0_0 l0_1)) = some (r1, r2) := by rw [if_pos rfl] at H;exact H
  clear H
  have H := H1
  clear H1
  replace H := Option.bind_eq_some_iff.mp H
  obtain ⟨t725, A70, H⟩ := H
  replace H : (spec_SavedSum.j0 k a1 (!t725) a0_0 l0_1) = some (r1, r2) := H
  have A7 := Aside0.mk A70
  clear A70
  have H' := Aside0.mk H
  clear H
  have hcz8_0 : w4.cell? ⟨gb723, 0, none⟩ = some (.int .i64 a0_0) := (blk_cell BK723.out 0).trans rfl
  have hcz8_1 : w4.cell? ⟨gb723, 1, none⟩ = some (.slice A0_1 l0_1.length c0_1) := (blk_cell BK723.out 1).trans rfl
  have hfz8_0 := blk_frozen BK723.out 0
  have hfz8_1 := blk_frozen BK723.out 1
  go_wp2_with (first | ((with_reducible refine gate_callee (f := 83) rfl ?_);refine goesL_ (some 11) rfl rfl Try.func83 (by kernel_rfl) rfl #[.agg #[.int .i64 a0_0, .slice A0_1 l0_1.length c0_1]] rfl mM ?_;(with_reducible refine (spec_l2Good.calls a0_0 _ _ l0_1 true _ ?side1 ?side2 A5.out).mono ?_);(case side1 => exact cP (Kd.C_below HR0_1.out HB.out));(case side2 => exact HC0_1.out);rintro e w9 ⟨rfl, hb⟩;refine ⟨_, rfl, ?_⟩;have n0_ := aM (blk_below (g := gb723) (o := .cells #[.int .i64 a0_0, .slice A0_1 l0_1.length c0_1] 31 (0, 0)) (by exact kP BK723.out) hb);have n1_ := aM (below_step (by exact bB) hb);clear BK723;clear HB;have BK723 := n0_;have HB := n1_;clear n0_ n1_;(try clear hb);(try clear hb2);(try clear hk);(try clear hi)) | (go_at_call 84;(with_reducible refine (spec_l1In.calls a1 0 3 t725 _ A7.out).mono ?_);rintro e w' ⟨rfl, ⟨nd, rfl⟩⟩))
  go_meet
  case rel => exact ⟨_, (!t725), (by first | rfl | (simp;done) | (simp [*];done)), H', ⟨by first | omega | exact Nat.le_refl _⟩, ⟨by exact kP BK723.out⟩, ⟨by exact bB⟩⟩
 case rest =>
  clear HC3
  try clear p2
  try clear c3
  try clear c6
  try clear c8
  try clear hcz10_0
  try clear hcz10_1
  try clear hcz8_0
  try clear hcz8_1
  try clear hfz10_0
  try clear hfz10_1
  try clear hfz8_0
  try clear hfz8_1
  obtain ⟨kq, x17_2, rfl, HA, HJ2, BK723, HB⟩ := hcut
  cases kq with
  | zero => exact absurd HA.out (by simp [spec_SavedSum.j0])
  | succ kj2 =>
   have H := HA.out
   clear HA
   simp only [spec_SavedSum.j0] at H
   by_cases c12 : x17_2 = true
   ·subst c12
    have H1 : (some (0, false)) = some (r1, r2) := by rw [if_pos rfl] at H;exact H
    clear H
    have H := H1
    clear H1
    simp only [Option.some.injEq, Prod.mk.injEq] at H
    obtain ⟨rfl, rfl⟩ := H
    go_wp2
    go_ret2
    exact ⟨by first | rfl | (simp [errW_none, errW_some] <;> rfl) | (simp [*, errW_none, errW_some] <;> rfl), by exact bB⟩
   replace c12 := Bool.eq_false_iff.mpr c12
   subst c12
   have H1 : (spec_SavedSum.l0 kj2 a1 0 0 a0_0 l0_1) = some (r1, r2) := by rw [if_neg (show ¬ (false = true) by decide)] at H;exact H
   clear H
   have H := H1
   clear H1
   have H' := Aside0.mk H
   clear H
   go_wp2
   go_loopg [6, 7] kj2 (fun kq v6 v7 w' => ∃ (x6_2 : Int) (x7_2 : Int), v6 = .int .i64 x6_2 ∧ v7 = .int .i64 x7_2 ∧ Aside0 (spec_SavedSum.l0 kq a1 x6_2 x7_2 a0_0 l0_1 = some (r1, r2)) ∧ Aside0 (kq ≤ kj2) ∧ Aside0 (w'.heap[gb723]? = some (.cells #[.int .i64 a0_0, (.slice A0_1 l0_1.length c0_1)] 31 (0, 0))) ∧ Aside0 (Below w.heap.size w w'))
   case atStart => exact ⟨(0), (0), (by first | rfl | (simp;done) | (simp [*];done)), (by first | rfl | (simp;done) | (simp [*];done)), H', ⟨Nat.le_refl _⟩, ⟨by exact kP BK723.out⟩, ⟨by exact bB⟩⟩
   case round =>
    clear H'
    try clear c1
    try clear p2
    try clear c3
    try clear c6
    try clear c8
    try clear c12
    try clear hcz10_0
    try clear hcz10_1
    try clear hcz8_0
    try clear hcz8_1
    try clear hfz10_0
    try clear hfz10_1
    try clear hfz8_0
    try clear hfz8_1
    try clear p2
    obtain ⟨x6_2, x7_2, rfl, rfl, HA, HK2, BK723, HB⟩ := hrel
    cases gk with
    | zero => exact absurd HA.out (by simp [spec_SavedSum.l0])
    | succ k2 =>
     have H := HA.out
     clear HA
     simp only [spec_SavedSum.l0] at H
     by_cases c13 : x7_2 < a0_0
     rotate_left
     ·rw [if_neg c13] at H
      have c13b0 : decide (x7_2 < a0_0) = false := decide_eq_false c13
      clear c13
      simp only [Option.some.injEq, Prod.mk.injEq] at H
      obtain ⟨rfl, rfl⟩ := H
      have hcz20_0 : wr.cell? ⟨gb723, 0, none⟩ = some (.int .i64 a0_0) := (blk_cell BK723.out 0).trans rfl
      have hcz20_1 : wr.cell? ⟨gb723, 1, none⟩ = some (.slice A0_1 l0_1.length c0_1) := (blk_cell BK723.out 1).trans rfl
      have hfz20_0 := blk_frozen BK723.out 0
      have hfz20_1 := blk_frozen BK723.out 1
      go_wp2
      go_ret2
      exact ⟨by first | rfl | (simp [errW_none, errW_some] <;> rfl) | (simp [*, errW_none, errW_some] <;> rfl), by exact bB⟩
     rw [if_pos c13] at H
     have c13b0 : decide (x7_2 < a0_0) = true := decide_eq_true c13
     clear c13
     obtain ⟨y726, hy726⟩ : ∃ y_ : List Int, y_ = (([x7_2] : List Int)) := ⟨_, rfl⟩
     replace H : ((spec_l8Best.f k2 a0_0 l0_1 y726 ([] : List Int) a1).bind fun bt729 => (spec_SavedSum.l0 k2 a1 (wrap64 (x6_2 + bt729.2)) (wrap64 (x7_2 + 1)) a0_0 l0_1)) = some (r1, r2) := by first | (rw [hy726];with_reducible exact H) | (have H2_ := (Option.bind_some _ _).symm.trans H;rw [hy726];with_reducible exact H2_) | (have H2_ := (Option.bind_some _ _).symm.trans H;with_reducible exact H2_) | with_reducible exact H | (rw [hy726];exact H) | exact H
     have Ny726 := Aside0.mk hy726
     clear hy726
     replace H := Option.bind_eq_some_iff.mp H
     obtain ⟨⟨t729, t732⟩, A140, H⟩ := H
     replace H : (spec_SavedSum.l0 k2 a1 (wrap64 (x6_2 + t732)) (wrap64 (x7_2 + 1)) a0_0 l0_1) = some (r1, r2) := H
     have A14 := Aside0.mk A140
     clear A140
     have H' := Aside0.mk H
     clear H
     have hcz15_0 : wr.cell? ⟨gb723, 0, none⟩ = some (.int .i64 a0_0) := (blk_cell BK723.out 0).trans rfl
     have hcz15_1 : wr.cell? ⟨gb723, 1, none⟩ = some (.slice A0_1 l0_1.length c0_1) := (blk_cell BK723.out 1).trans rfl
     have hfz15_0 := blk_frozen BK723.out 0
     have hfz15_1 := blk_frozen BK723.out 1
     go_wp2_with (first | ((with_reducible refine gate_dst (N := 27) rfl ?_);refine Kd.R_lit (Kd.int .i64) _ 3 ?hg (N := 27) ?hd (xs := ([x7_2] : List Int)) (inner := [.int .i64 x7_2]) (ok := fun _ => True) (okp := fun _ => True) ?hr ?hp (fun _ hk => hk) trivial (Below.refl _ _) (Nat.le_refl _) (by simp) ?_;(case hd => rfl);(case hg => rfl);(case hr => first | (go_simp;done) | (go_simp;rfl));(case hp => exact (Reps.one (show Kd.M (Kd.int .i64) _ _ _ x7_2 [.int .i64 x7_2] from rfl) (Reps.none _ _)));intro v727 w16 ho17 hb hg_ hnew_;clear hg_ hnew_;(first | rw [← Ny726.out] at ho17 | (simp only [Int.reduceToNat] at ho17;rw [← Ny726.out] at ho17));have n0_ := aM (Kd.R_lower ho17 (below_size (by exact bB)));have n1_ := aM (blk_below (g := gb723) (o := .cells #[.int .i64 a0_0, .slice A0_1 l0_1.length c0_1] 31 (0, 0)) (by exact kP BK723.out) hb);have n2_ := aM (below_step (by exact bB) hb);clear BK723;clear HB;have HO728 := n0_;have BK723 := n1_;have HB := n2_;clear n0_ n1_ n2_;clear hb ho17;obtain ⟨Ao18, co18, eo18⟩ := Kd.R_slice HO728.out;subst eo18) | ((with_reducible refine gate_callee (f := 76) rfl ?_);refine goesL_ (some 30) rfl rfl Try.func76 (by kernel_rfl) rfl #[.agg #[.int .i64 a0_0, .slice A0_1 l0_1.length c0_1], .agg #[.slice Ao18 y726.length co18, .slice none 0 0], .int .i64 a1] rfl mM ?_;(refine (spec_l8Best.calls k2 a0_0 _ _ l0_1 _ _ y726 _ _ ([] : List Int) a1 t729 t732 _ ?side1 ?side2 ?side3 ?side4 ?side5 ?side6 A14.out).mono ?_);(case side1 => exact cP (Kd.C_below HR0_1.out HB.out));(case side2 => exact HC0_1.out);(case side3 => exact cP (Kd.R_reads' HO728.out).2.2);(case side4 => exact (Kd.R_reads' HO728.out).2.1);(case side5 => exact Kd.C_nil _ _);(case side6 => exact Nat.le_refl _);rintro e w19 ⟨v730, rfl, ho0, hb⟩;refine ⟨_, rfl, ?_⟩;have n0_ := aM (Kd.R_below (by exact rP HO728.out) hb);have n1_ := aM (Kd.N_lower (Kd.N_mono (ok' := fun k_ => some k_ ≠ (.slice Ao18 y726.length co18 : Value).ownBlock ∧ k_ ≠ gb723) ho0 (fun k_ hk_ => ⟨(Kd.fresh' (Kd.R_lt (by exact rP HO728.out)) k_ hk_), (Kd.freshB (g := gb723) (o := .cells #[.int .i64 a0_0, .slice A0_1 l0_1.length c0_1] 31 (0, 0)) (by exact kP BK723.out) k_ hk_)⟩)) (below_size (by exact bB)));have n2_ := aM (blk_below (g := gb723) (o := .cells #[.int .i64 a0_0, .slice A0_1 l0_1.length c0_1] 31 (0, 0)) (by exact kP BK723.out) hb);have n3_ := aM (below_step (by exact bB) hb);clear HO728;clear BK723;clear HB;have HO728 := n0_;have HO731 := n1_;have BK723 := n2_;have HB := n3_;clear n0_ n1_ n2_ n3_;(try clear hb);(try clear hb2);(try clear hk);(try clear hi);(try clear ho0)))
     go_roundg k2
     case measure => have := HJ2.out;have := HK2.out;omega
     case rel => exact ⟨(wrap64 (x6_2 + t732)), (wrap64 (x7_2 + 1)), (by first | rfl | (simp;done) | (simp [*];done)), (by first | rfl | (simp;done) | (simp [*];done)), H', ⟨by have := HJ2.out;have := HK2.out;omega⟩, ⟨by exact kP BK723.out⟩, ⟨by exact bB⟩⟩


end Go.Proofs.Ytmokkhfmbenleaa.QSavedSum
