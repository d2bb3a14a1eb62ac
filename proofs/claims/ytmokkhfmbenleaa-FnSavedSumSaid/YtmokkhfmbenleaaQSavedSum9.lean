import Derived.Test.YtmokkhfmbenleaaQSavedSum0
import Derived.Test.YtmokkhfmbenleaaQSavedSum3
import Derived.Test.YtmokkhfmbenleaaQSavedSum8
namespace Go.Proofs.Ytmokkhfmbenleaa.QSavedSum
open Go.RowKit Go.Proofs.YtmokkhfmbenleaaW.PrintWords Go.Proofs.YtmokkhfmbenleaaW.PrintLast Go.Proofs.YtmokkhfmbenleaaW.PrintMore
attribute [local go_sem] max2_int min2_int max_two min_two max_three min_three max_four min_four   -- for this text's walks alone
set_option linter.unusedVariables false
set_option linter.unusedSimpArgs false
/-! ### impl_net_fightFire: function 77 -/
mutual
def impl_net_fightFire.l0 : Nat → Int → Int → List (List Int) → List (List Int) → Int → Int → List Int → Int → Int → Option (Int × (List (List Int)))
 | 0, _, _, _, _, _, _, _, _, _ => none
 | k + 1, x2, x9, x10, x41, x42, x43, x618000, x619000, x619001 => if x43 < x42 then (if 0 ≤ x43 then (if x43 < (x41.length : Int) then ((impl_maskOf.f k (rd_L3 x41 x43)).bind fun t630 => ((impl_net_threatened.f k x618000 x619000 (Go.bits .or .i64 x619001 t630)).bind fun t632 => ((impl_net_fightFire.f k x618000 (Go.bits .or .i64 x619000 t632) (Go.bits .or .i64 x619001 t630) x2).bind fun bt633 => (if bt633.1 > x9 then ((some (([rd_L3 x41 x43] : List (List Int)) : List (List Int))).bind fun y637 => (if y637.length + bt633.2.length < 5864062014805 then (impl_net_fightFire.l0 k x2 bt633.1 (y637 ++ bt633.2) x41 x42 (wrap64 (x43 + 1)) x618000 x619000 x619001) else (none))) else (impl_net_fightFire.l0 k x2 x9 x10 x41 x42 (wrap64 (x43 + 1)) x618000 x619000 x619001))))) else (none)) else (none)) else (some (x9, x10))
def impl_net_fightFire.f : Nat → List Int → Int → Int → Int → Option (Int × (List (List Int)))
 | 0, _, _, _, _ => none
 | k + 1, l0_0, a1_0, a1_1, a2 => (impl_net_threatened.f k l0_0 a1_0 a1_1).bind fun t619 => (if t619 = 0 then ((impl_net_size.f l0_0).bind fun t620 => ((bits_OnesCount.f (IntKind.u64.wrap (a1_0))).bind fun t621 => (some (wrap64 (t620 - t621), ([] : List (List Int)))))) else ((impl_net_all.f l0_0).bind fun t622 => ((impl_setOf.f k (Go.bits .andNot .i64 (Go.bits .andNot .i64 t622 a1_0) a1_1)).bind fun t623 => ((impl_subsetsOf.f k t623 (mn a2 (t623.length : Int))).bind fun t626 => (impl_net_fightFire.l0 k a2 (-1) ([] : List (List Int)) t626 (t626.length : Int) 0 l0_0 a1_0 a1_1)))))
end
theorem impl_net_fightFire.mono_l : ∀ k, (∀ y0 y1 y2 y3, LeO (impl_net_fightFire.f k y0 y1 y2 y3) (impl_net_fightFire.f (k + 1) y0 y1 y2 y3)) ∧ (∀ y0 y1 y2 y3 y4 y5 y6 y7 y8, LeO (impl_net_fightFire.l0 k y0 y1 y2 y3 y4 y5 y6 y7 y8) (impl_net_fightFire.l0 (k + 1) y0 y1 y2 y3 y4 y5 y6 y7 y8))
 | 0 => ⟨fun _ _ _ _ r h => by simp [impl_net_fightFire.f] at h, fun _ _ _ _ _ _ _ _ _ r h => by simp [impl_net_fightFire.l0] at h⟩
 | k + 1 => by
  obtain ⟨ih0, ih1⟩ := impl_net_fightFire.mono_l k
  refine ⟨?_, ?_⟩
  ·intro y0 y1 y2 y3
   unfold impl_net_fightFire.f
   repeat' first
   | (with_reducible exact ih0 _ _ _ _)
   | (with_reducible exact ih1 _ _ _ _ _ _ _ _ _)
   | (with_reducible exact impl_maskOf.mono _ _)
   | (with_reducible exact impl_net_threatened.mono _ _ _ _)
   | (with_reducible exact impl_setOf.mono _ _)
   | (with_reducible exact impl_subsetsOf.mono _ _ _)
   | (with_reducible exact LeO.refl _)
   | (with_reducible exact LeO.none _)
   | (with_reducible refine LeO.ite ?_ ?_)
   | (with_reducible refine LeO.bind ?_ (fun _ => ?_))
   | exact ih0 _ _ _ _
   | exact ih1 _ _ _ _ _ _ _ _ _
   | exact impl_maskOf.mono _ _
   | exact impl_net_threatened.mono _ _ _ _
   | exact impl_setOf.mono _ _
   | exact impl_subsetsOf.mono _ _ _
   | exact LeO.none _
   | refine LeO.ite ?_ ?_
   | refine LeO.bind ?_ (fun _ => ?_)
  ·intro y0 y1 y2 y3 y4 y5 y6 y7 y8
   unfold impl_net_fightFire.l0
   repeat' first
   | (with_reducible exact ih0 _ _ _ _)
   | (with_reducible exact ih1 _ _ _ _ _ _ _ _ _)
   | (with_reducible exact impl_maskOf.mono _ _)
   | (with_reducible exact impl_net_threatened.mono _ _ _ _)
   | (with_reducible exact impl_setOf.mono _ _)
   | (with_reducible exact impl_subsetsOf.mono _ _ _)
   | (with_reducible exact LeO.refl _)
   | (with_reducible exact LeO.none _)
   | (with_reducible refine LeO.ite ?_ ?_)
   | (with_reducible refine LeO.bind ?_ (fun _ => ?_))
   | exact ih0 _ _ _ _
   | exact ih1 _ _ _ _ _ _ _ _ _
   | exact impl_maskOf.mono _ _
   | exact impl_net_threatened.mono _ _ _ _
   | exact impl_setOf.mono _ _
   | exact impl_subsetsOf.mono _ _ _
   | exact LeO.none _
   | refine LeO.ite ?_ ?_
   | refine LeO.bind ?_ (fun _ => ?_)
theorem impl_net_fightFire.mono : ∀ a0 a1 a2 a3 k, LeO (impl_net_fightFire.f k a0 a1 a2 a3) (impl_net_fightFire.f (k + 1) a0 a1 a2 a3) := by
 intro a0 a1 a2 a3 k
 obtain ⟨ih0, ih1⟩ := impl_net_fightFire.mono_l k
 exact ih0 a0 a1 a2 a3
def impl_net_fightFire.T2 : Bool × List (List Nat × List Nat) := (true, [([], []), ([0], [0]), ([], []), ([2], [2]), ([3], [3]), ([4, 1], [4]), ([1, 5], [1, 5]), ([6, 5, 0, 1, 2, 3, 4, 5, 6], [6]), ([7, 0, 1, 2, 3, 4, 5, 6, 7], [])])
def impl_net_fightFire.B2 : List Nat := [0, 1, 0, 4, 12, 31, 63, 127, 255]
theorem impl_net_fightFire.tab2 : rtab .any (opsOf Try.f77 2) = impl_net_fightFire.T2 := by kernel_rfl
theorem impl_net_fightFire.bits2 : waitsOk impl_net_fightFire.T2.2 impl_net_fightFire.B2 = true := by kernel_rfl
def impl_net_fightFire.T3 : Bool × List (List Nat × List Nat) := (true, [([], []), ([0], [0]), ([], []), ([2], [2]), ([1, 3], [1, 3]), ([], []), ([5], [5]), ([4, 6], [4, 6]), ([7, 1], [7]), ([8, 8, 0, 1, 2, 3, 4, 5, 6, 7, 8], [8])])
def impl_net_fightFire.B3 : List Nat := [0, 1, 0, 4, 15, 0, 32, 127, 255, 511]
theorem impl_net_fightFire.tab3 : rtab .any (opsOf Try.f77 3) = impl_net_fightFire.T3 := by kernel_rfl
theorem impl_net_fightFire.bits3 : waitsOk impl_net_fightFire.T3.2 impl_net_fightFire.B3 = true := by kernel_rfl
def impl_net_fightFire.T8 : Bool × List (List Nat × List Nat) := (true, [([], []), ([0], [0]), ([], []), ([2], [2]), ([], []), ([4], [4]), ([3, 5], [3, 5]), ([1, 6], [1, 6]), ([], []), ([8, 7, 5, 0, 1, 2, 3, 4, 5, 6, 7, 8], [7, 8])])
def impl_net_fightFire.B8 : List Nat := [0, 1, 0, 4, 0, 16, 60, 127, 0, 511]
theorem impl_net_fightFire.tab8 : rtab .any (opsOf Try.f77 8) = impl_net_fightFire.T8 := by kernel_rfl
theorem impl_net_fightFire.bits8 : waitsOk impl_net_fightFire.T8.2 impl_net_fightFire.B8 = true := by kernel_rfl
def impl_net_fightFire.T9 : Bool × List (List Nat × List Nat) := (true, [([], []), ([0], [0]), ([], []), ([], []), ([2, 3], [2, 3]), ([1, 4], [1, 4]), ([0, 1, 2, 3, 4, 5], []), ([6, 5, 4, 0, 1, 2, 3, 4, 5], [5, 6])])
def impl_net_fightFire.B9 : List Nat := [0, 1, 0, 0, 12, 31, 63, 127]
theorem impl_net_fightFire.tab9 : rtab .any (opsOf Try.f77 9) = impl_net_fightFire.T9 := by kernel_rfl
theorem impl_net_fightFire.bits9 : waitsOk impl_net_fightFire.T9.2 impl_net_fightFire.B9 = true := by kernel_rfl
set_option maxHeartbeats 8000000 in
set_option maxRecDepth 100000 in
theorem impl_net_fightFire.calls (k : Nat) : ∀ (A0_0 : Option Addr) (c0_0 : Nat) (l0_0 : List Int) (a1_0 : Int) (a1_1 : Int) (a2 : Int) (r1 : Int) (r2 : List (List Int)) (w : World) (hr0_0 : Kd.C (Kd.int .i64) w A0_0 l0_0.length l0_0) (hc0_0 : l0_0.length ≤ c0_0) (h : impl_net_fightFire.f k l0_0 a1_0 a1_1 a2 = some (r1, r2)),
  Calls Try.prog 77 #[.agg #[.slice A0_0 l0_0.length c0_0], .agg #[.int .i64 a1_0, .int .i64 a1_1], .int .i64 a2] w fun e w' => ∃ v1_ : Value, e = .returned (.tuple #[.int .i64 r1, v1_]) ∧ Kd.N (Kd.slice 3 (Kd.int .i64)) 28 w' w.heap.size (fun k_ => (w.heap.size ≤ k_)) v1_ r2 ∧ Below w.heap.size w w' := by
 induction k using Nat.strongRecOn with
 | _ k ih =>
 intro A0_0 c0_0 l0_0 a1_0 a1_1 a2 r1 r2 w hr0_0 hc0_0 h
 cases k with
 | zero => exact absurd h (by simp [impl_net_fightFire.f])
 | succ k =>
 simp only [impl_net_fightFire.f] at h
 have hu80 := Try.underlying80
 have hu75 := Try.underlying75
 have HR0_0 := Aside0.mk hr0_0
 have HC0_0 := Aside0.mk hc0_0
 clear hr0_0 hc0_0
 have HB := aM (Below.refl w.heap.size w)
 have H : ((impl_net_threatened.f k l0_0 a1_0 a1_1).bind fun t619 => (if t619 = 0 then ((impl_net_size.f l0_0).bind fun t620 => ((bits_OnesCount.f (IntKind.u64.wrap (a1_0))).bind fun t621 => (some (wrap64 (t620 - t621), ([] : List (List Int)))))) else ((impl_net_all.f l0_0).bind fun t622 => ((impl_setOf.f k (Go.bits .andNot .i64 (Go.bits .andNot .i64 t622 a1_0) a1_1)).bind fun t623 => ((impl_subsetsOf.f k t623 (mn a2 (t623.length : Int))).bind fun t626 => (impl_net_fightFire.l0 k a2 (-1) ([] : List (List Int)) t626 (t626.length : Int) 0 l0_0 a1_0 a1_1)))))) = some (r1, r2) := h
 clear h
 replace H := Option.bind_eq_some_iff.mp H
 obtain ⟨t619, A40, H⟩ := H
 replace H : (if t619 = 0 then ((impl_net_size.f l0_0).bind fun t620 => ((bits_OnesCount.f (IntKind.u64.wrap (a1_0))).bind fun t621 => (some (wrap64 (t620 - t621), ([] : List (List Int)))))) else ((impl_net_all.f l0_0).bind fun t622 => ((impl_setOf.f k (Go.bits .andNot .i64 (Go.bits .andNot .i64 t622 a1_0) a1_1)).bind fun t623 => ((impl_subsetsOf.f k t623 (mn a2 (t623.length : Int))).bind fun t626 => (impl_net_fightFire.l0 k a2 (-1) ([] : List (List Int)) t626 (t626.length : Int) 0 l0_0 a1_0 a1_1))))) = some (r1, r2) := H
 have A4 := Aside0.mk A40
 clear A40
 by_cases c5 : t619 = 0
 ·rw [if_pos c5] at H
  have c5b0 : (t619 == 0) = true := beq_iff_eq.mpr c5
  have c5b1 : (t619 != 0) = false := bne_eq_false_iff_eq.mpr c5
  clear c5
  replace H := Option.bind_eq_some_iff.mp H
  obtain ⟨t620, A60, H⟩ := H
  replace H : ((bits_OnesCount.f (IntKind.u64.wrap (a1_0))).bind fun t621 => (some (wrap64 (t620 - t621), ([] : List (List Int))))) = some (r1, r2) := H
  have A6 := Aside0.mk A60
  clear A60
  replace H := Option.bind_eq_some_iff.mp H
  obtain ⟨t621, A70, H⟩ := H
  replace H : (some (wrap64 (t620 - t621), ([] : List (List Int)))) = some (r1, r2) := H
  have A7 := Aside0.mk A70
  clear A70
  simp only [Option.some.injEq, Prod.mk.injEq] at H
  obtain ⟨rfl, rfl⟩ := H
  go_enter Try.func77, Try.ntmps77
  try go_wp2_with (first | ((with_reducible refine gate_dst (N := 3) rfl ?_);refine box_event ?hg (N := 3) ?hd (cs := #[.slice A0_0 l0_0.length c0_0]) (t := 80) ?hr ?_;(case hd => rfl);(case hg => rfl);(case hr => first | (go_simp;done) | (go_simp;rfl));intro gb617 hg w8 hbox hb;have n0_ := aM (below_step (by exact bB) hb);have n1_ := aM (hbox);have n2_ := aM ((by rw [hg];exact (below_size (by exact bB)) : w.heap.size ≤ gb617));have n3_ := aM ((by rw [hg];exact (below_size (by exact bB)) : w.heap.size ≤ gb617));clear HB;have HB := n0_;have BK617 := n1_;have GW617 := n2_;have GE617 := n3_;clear n0_ n1_ n2_ n3_;clear hb hbox hg) | ((with_reducible refine gate_dst (N := 4) rfl ?_);refine box_event ?hg (N := 4) ?hd (cs := #[.int .i64 a1_0, .int .i64 a1_1]) (t := 75) ?hr ?_;(case hd => rfl);(case hg => rfl);(case hr => first | (go_simp;done) | (go_simp;rfl));intro gb618 hg w9 hbox hb;have n0_ := aM (blk_below (g := gb617) (o := .cells #[.slice A0_0 l0_0.length c0_0] 80 (0, 0)) (by exact kP BK617.out) hb);have n1_ := aM (below_step (by exact bB) hb);have n2_ := aM (hbox);have n3_ := aM ((by rw [hg];exact (below_size (by exact bB)) : w.heap.size ≤ gb618));have n4_ := aM ((by rw [hg];exact (below_size (by exact bB)) : w.heap.size ≤ gb618));have n5_ := aM ((by rw [hg];exact Nat.ne_of_lt (blk_lt (g := gb617) (o := .cells #[.slice A0_0 l0_0.length c0_0] 80 (0, 0)) (by exact kP BK617.out)) : gb617 ≠ gb618));have n6_ := aM ((by rw [hg];exact Nat.ne_of_gt (blk_lt (g := gb617) (o := .cells #[.slice A0_0 l0_0.length c0_0] 80 (0, 0)) (by exact kP BK617.out)) : gb618 ≠ gb617));clear BK617;clear HB;have BK617 := n0_;have HB := n1_;have BK618 := n2_;have GW618 := n3_;have GE618 := n4_;have NB617_618 := n5_;have NB618_617 := n6_;clear n0_ n1_ n2_ n3_ n4_ n5_ n6_;clear hb hbox hg;have hnb10 := NB617_618.out;have hnc10 := NB618_617.out;have hcz11_0 : w9.cell? ⟨gb617, 0, none⟩ = some (.slice A0_0 l0_0.length c0_0) := (blk_cell BK617.out 0).trans rfl;have hfz11_0 := blk_frozen BK617.out 0;have hcz12_0 : w9.cell? ⟨gb618, 0, none⟩ = some (.int .i64 a1_0) := (blk_cell BK618.out 0).trans rfl;have hcz12_1 : w9.cell? ⟨gb618, 1, none⟩ = some (.int .i64 a1_1) := (blk_cell BK618.out 1).trans rfl;have hfz12_0 := blk_frozen BK618.out 0;have hfz12_1 := blk_frozen BK618.out 1) | ((with_reducible refine gate_callee (f := 122) rfl ?_);refine goesL_ (some 18) rfl rfl Try.func122 (by kernel_rfl) rfl #[.agg #[.slice A0_0 l0_0.length c0_0], .agg #[.int .i64 a1_0, .int .i64 a1_1]] rfl mM ?_;(with_reducible refine (impl_net_threatened.calls k _ _ l0_0 a1_0 a1_1 t619 _ ?side1 ?side2 A4.out).mono ?_);(case side1 => exact cP (Kd.C_below HR0_0.out HB.out));(case side2 => exact HC0_0.out);rintro e w13 ⟨rfl, hb⟩;refine ⟨_, rfl, ?_⟩;have n0_ := aM (blk_below (g := gb617) (o := .cells #[.slice A0_0 l0_0.length c0_0] 80 (0, 0)) (by exact kP BK617.out) hb);have n1_ := aM (blk_below (g := gb618) (o := .cells #[.int .i64 a1_0, .int .i64 a1_1] 75 (0, 0)) (by exact kP BK618.out) hb);have n2_ := aM (below_step (by exact bB) hb);clear BK617;clear BK618;clear HB;have BK617 := n0_;have BK618 := n1_;have HB := n2_;clear n0_ n1_ n2_;(try clear hb);(try clear hb2);(try clear hk);(try clear hi)))
  have n0_ := aM (blk_drew BK617.out)
  have n1_ := aM (blk_drew BK618.out)
  have n2_ := aM (below_drew1 HB.out)
  clear BK617
  clear BK618
  clear HB
  have BK617 := n0_
  have BK618 := n1_
  have HB := n2_
  clear n0_ n1_ n2_
  refine start_ (n := 9) (S := fun w' => w'.cell? ⟨gb617, 0, none⟩ = some (.slice A0_0 l0_0.length c0_0) ∧ w'.cell? ⟨gb618, 0, none⟩ = some (.int .i64 a1_0) ∧ w'.cell? ⟨gb618, 1, none⟩ = some (.int .i64 a1_1)) (ds := []) #[false,false,false,false,false,false,false,false,false] (by kernel_rfl) rfl rfl ⟨(blk_cell BK617.out 0).trans rfl, (blk_cell BK618.out 0).trans rfl, (blk_cell BK618.out 1).trans rfl⟩ (fun hHeld => ?_);refine with_tabW impl_net_fightFire.tab2 impl_net_fightFire.bits2 (fun HT_ HW_ => ?_)
  generalize w13.drew = w14 at BK617 BK618 HB hHeld ⊢
  refine pure_ (i := 2) (N := some 22) (v := ?_) (a' := ?_) #[false,false,true,false,false,false,false,false,false] rfl rfl (any_of HT_.out (by kernel_rfl)) (fun _ _ _ h => h) (Or.inl ⟨by rfl, ?_⟩) ?_ ?_
  rotate_left
  ·intro w'
   go_simp
   with_reducible rfl
  rotate_left
  ·exact aP
  refine take_ (i := 0) (N := some 20) (v := ?_) (a' := ?_) #[true,false,true,false,false,false,false,false,false] rfl rfl (take_ofW HT_.out HW_.out (by kernel_rfl)) (fun _ _ _ h => h) (Or.inl ⟨by rfl, ?_⟩) hHeld ?_ ?_
  rotate_left
  ·rintro w' ⟨s0, s1, s2⟩
   go_simp
   with_reducible rfl
  rotate_left
  ·exact aP
  refine take_ (i := 3) (N := some 23) (v := ?_) (a' := ?_) #[true,false,true,true,false,false,false,false,false] rfl rfl (take_ofW HT_.out HW_.out (by kernel_rfl)) (fun _ _ _ h => h) (Or.inl ⟨by rfl, ?_⟩) hHeld ?_ ?_
  rotate_left
  ·rintro w' ⟨s0, s1, s2⟩
   go_simp
   with_reducible rfl
  rotate_left
  ·exact aP
  refine pure_ (i := 4) (N := some 24) (v := ?_) (a' := ?_) #[true,false,true,true,true,false,false,false,false] rfl rfl (any_of HT_.out (by kernel_rfl)) (fun _ _ _ h => h) (Or.inl ⟨by rfl, ?_⟩) ?_ ?_
  rotate_left
  ·intro w'
   go_simp
   with_reducible rfl
  rotate_left
  ·exact aP
  refine one_ (i := 1) (N := some 21) #[true,true,true,true,true,false,false,false,false] rfl rfl (one_of HT_.out (by kernel_rfl)) (by decide) (fun K hK => ?_)
  refine goes_ Try.func127 (by kernel_rfl) rfl #[.agg #[.slice A0_0 l0_0.length c0_0]] (by rfl) rfl rfl mM ?_
  with_reducible refine (impl_net_size.calls _ _ l0_0 t620 _ ?side1 ?side2 A6.out).mono ?_
  (case side1 => exact cP (Kd.C_below HR0_0.out HB.out))
  (case side2 => exact HC0_0.out)
  rintro e w15 ⟨rfl, hb⟩
  refine ⟨_, rfl, ?_⟩
  have n0_ := aM (blk_below (g := gb617) (o := .cells #[.slice A0_0 l0_0.length c0_0] 80 (0, 0)) (by exact kP BK617.out) hb)
  have n1_ := aM (blk_below (g := gb618) (o := .cells #[.int .i64 a1_0, .int .i64 a1_1] 75 (0, 0)) (by exact kP BK618.out) hb)
  have n2_ := aM (below_step (by exact bB) hb)
  clear BK617
  clear BK618
  clear HB
  have BK617 := n0_
  have BK618 := n1_
  have HB := n2_
  clear n0_ n1_ n2_
  (try clear hb)
  (try clear hb2)
  (try clear hk)
  (try clear hi)
  refine hK.out _ _ ⟨(blk_cell BK617.out 0).trans rfl, (blk_cell BK618.out 0).trans rfl, (blk_cell BK618.out 1).trans rfl⟩ (fun hHeld => ?_)
  clear hK K
  refine norm_ (a' := ?_) ?_ ?_
  rotate_left
  ·show Act.put _ (some 21) _ = _
   simp only [Act.put, List.setIfInBounds_toArray, List.set_cons_zero, List.set_cons_succ, i64_w, i32_w]
   rfl
  refine one_ (i := 5) (N := some 25) #[true,true,true,true,true,true,false,false,false] rfl rfl (one_of HT_.out (by kernel_rfl)) (by decide) (fun K hK => ?_)
  refine goes_ Try.func103 (by kernel_rfl) rfl #[.int .u64 (IntKind.u64.wrap (a1_0))] (by rfl) rfl rfl mM ?_
  with_reducible refine (bits_OnesCount.calls (IntKind.u64.wrap (a1_0)) t621 _ A7.out).mono ?_
  rintro e w' ⟨rfl, ⟨nd, rfl⟩⟩
  refine ⟨_, rfl, ?_⟩
  refine hK.out _ _ ⟨(blk_cell BK617.out 0).trans rfl, (blk_cell BK618.out 0).trans rfl, (blk_cell BK618.out 1).trans rfl⟩ (fun hHeld => ?_)
  clear hK K
  refine norm_ (a' := ?_) ?_ ?_
  rotate_left
  ·show Act.put _ (some 25) _ = _
   simp only [Act.put, List.setIfInBounds_toArray, List.set_cons_zero, List.set_cons_succ, i64_w, i32_w]
   rfl
  refine pure_ (i := 6) (N := some 26) (v := ?_) (a' := ?_) #[true,true,true,true,true,true,true,false,false] rfl rfl (any_of HT_.out (by kernel_rfl)) (fun _ _ _ h => h) (Or.inl ⟨by rfl, ?_⟩) ?_ ?_
  rotate_left
  ·intro w'
   go_simp
   with_reducible rfl
  rotate_left
  ·exact aP
  refine pure_ (i := 7) (N := some 6) (v := ?_) (a' := ?_) #[true,true,true,true,true,true,true,true,false] rfl rfl (any_of HT_.out (by kernel_rfl)) (fun _ _ _ h => h) (Or.inl ⟨by rfl, ?_⟩) ?_ ?_
  rotate_left
  ·intro w'
   go_simp
   with_reducible rfl
  rotate_left
  ·exact aP
  refine pure_ (i := 8) (N := some 7) (v := ?_) (a' := ?_) #[true,true,true,true,true,true,true,true,true] rfl rfl (any_of HT_.out (by kernel_rfl)) (fun _ _ _ h => h) (Or.inl ⟨by rfl, ?_⟩) ?_ ?_
  rotate_left
  ·intro w'
   go_simp
   with_reducible rfl
  rotate_left
  ·exact aP
  refine done_ (done_of HT_.out (by kernel_rfl)) ?_
  try go_wp2
  go_ret2
  exact ⟨_, by first | rfl | (simp [errW_none, errW_some] <;> rfl) | (simp [*, errW_none, errW_some] <;> rfl), by first | exact Kd.S_nil _ _ _ _ _ | exact Kd.N_nil _ _ _ _ _ | exact Kd.V_nil _ _ _ _ _ | exact Kd.Q_nil _ _ _ _ _ | exact Kd.R_nil _ _ _ _ _, by exact bB⟩
 rw [if_neg c5] at H
 have c5b0 : (t619 == 0) = false := beq_eq_false_iff_ne.mpr c5
 have c5b1 : (t619 != 0) = true := bne_iff_ne.mpr c5
 replace H := Option.bind_eq_some_iff.mp H
 obtain ⟨t622, A160, H⟩ := H
 replace H : ((impl_setOf.f k (Go.bits .andNot .i64 (Go.bits .andNot .i64 t622 a1_0) a1_1)).bind fun t623 => ((impl_subsetsOf.f k t623 (mn a2 (t623.length : Int))).bind fun t626 => (impl_net_fightFire.l0 k a2 (-1) ([] : List (List Int)) t626 (t626.length : Int) 0 l0_0 a1_0 a1_1))) = some (r1, r2) := H
 have A16 := Aside0.mk A160
 clear A160
 replace H := Option.bind_eq_some_iff.mp H
 obtain ⟨t623, A170, H⟩ := H
 replace H : ((impl_subsetsOf.f k t623 (mn a2 (t623.length : Int))).bind fun t626 => (impl_net_fightFire.l0 k a2 (-1) ([] : List (List Int)) t626 (t626.length : Int) 0 l0_0 a1_0 a1_1)) = some (r1, r2) := H
 have A17 := Aside0.mk A170
 clear A170
 obtain ⟨ji18, hji18⟩ : ∃ j_ : Int, (mn a2 (t623.length : Int)) = j_ := ⟨_, rfl⟩
 replace H : ((impl_subsetsOf.f k t623 (ji18)).bind fun t626 => (impl_net_fightFire.l0 k a2 (-1) ([] : List (List Int)) t626 (t626.length : Int) 0 l0_0 a1_0 a1_1)) = some (r1, r2) := by first | (rw [hji18] at H;exact H) | (simp only [hji18] at H ⊢;exact H)
 (try rw [hji18] at A4)
 (try rw [hji18] at A16)
 (try rw [hji18] at A17)
 have hji18_ : (if (t623.length : Int) < a2 then (t623.length : Int) else a2) = ji18 := hji18
 replace H := Option.bind_eq_some_iff.mp H
 obtain ⟨t626, A190, H⟩ := H
 replace H : (impl_net_fightFire.l0 k a2 (-1) ([] : List (List Int)) t626 (t626.length : Int) 0 l0_0 a1_0 a1_1) = some (r1, r2) := H
 have A19 := Aside0.mk A190
 clear A190
 have H' := Aside0.mk H
 clear H
 go_enter Try.func77, Try.ntmps77
 try go_wp2_with (first | ((with_reducible refine gate_dst (N := 3) rfl ?_);refine box_event ?hg (N := 3) ?hd (cs := #[.slice A0_0 l0_0.length c0_0]) (t := 80) ?hr ?_;(case hd => rfl);(case hg => rfl);(case hr => first | (go_simp;done) | (go_simp;rfl));intro gb617 hg w20 hbox hb;have n0_ := aM (below_step (by exact bB) hb);have n1_ := aM (hbox);have n2_ := aM ((by rw [hg];exact (below_size (by exact bB)) : w.heap.size ≤ gb617));have n3_ := aM ((by rw [hg];exact (below_size (by exact bB)) : w.heap.size ≤ gb617));clear HB;have HB := n0_;have BK617 := n1_;have GW617 := n2_;have GE617 := n3_;clear n0_ n1_ n2_ n3_;clear hb hbox hg) | ((with_reducible refine gate_dst (N := 4) rfl ?_);refine box_event ?hg (N := 4) ?hd (cs := #[.int .i64 a1_0, .int .i64 a1_1]) (t := 75) ?hr ?_;(case hd => rfl);(case hg => rfl);(case hr => first | (go_simp;done) | (go_simp;rfl));intro gb618 hg w21 hbox hb;have n0_ := aM (blk_below (g := gb617) (o := .cells #[.slice A0_0 l0_0.length c0_0] 80 (0, 0)) (by exact kP BK617.out) hb);have n1_ := aM (below_step (by exact bB) hb);have n2_ := aM (hbox);have n3_ := aM ((by rw [hg];exact (below_size (by exact bB)) : w.heap.size ≤ gb618));have n4_ := aM ((by rw [hg];exact (below_size (by exact bB)) : w.heap.size ≤ gb618));have n5_ := aM ((by rw [hg];exact Nat.ne_of_lt (blk_lt (g := gb617) (o := .cells #[.slice A0_0 l0_0.length c0_0] 80 (0, 0)) (by exact kP BK617.out)) : gb617 ≠ gb618));have n6_ := aM ((by rw [hg];exact Nat.ne_of_gt (blk_lt (g := gb617) (o := .cells #[.slice A0_0 l0_0.length c0_0] 80 (0, 0)) (by exact kP BK617.out)) : gb618 ≠ gb617));clear BK617;clear HB;have BK617 := n0_;have HB := n1_;have BK618 := n2_;have GW618 := n3_;have GE618 := n4_;have NB617_618 := n5_;have NB618_617 := n6_;clear n0_ n1_ n2_ n3_ n4_ n5_ n6_;clear hb hbox hg;have hnb22 := NB617_618.out;have hnc22 := NB618_617.out;have hcz23_0 : w21.cell? ⟨gb617, 0, none⟩ = some (.slice A0_0 l0_0.length c0_0) := (blk_cell BK617.out 0).trans rfl;have hfz23_0 := blk_frozen BK617.out 0;have hcz24_0 : w21.cell? ⟨gb618, 0, none⟩ = some (.int .i64 a1_0) := (blk_cell BK618.out 0).trans rfl;have hcz24_1 : w21.cell? ⟨gb618, 1, none⟩ = some (.int .i64 a1_1) := (blk_cell BK618.out 1).trans rfl;have hfz24_0 := blk_frozen BK618.out 0;have hfz24_1 := blk_frozen BK618.out 1) | ((with_reducible refine gate_callee (f := 122) rfl ?_);refine goesL_ (some 18) rfl rfl Try.func122 (by kernel_rfl) rfl #[.agg #[.slice A0_0 l0_0.length c0_0], .agg #[.int .i64 a1_0, .int .i64 a1_1]] rfl mM ?_;(with_reducible refine (impl_net_threatened.calls k _ _ l0_0 a1_0 a1_1 t619 _ ?side1 ?side2 A4.out).mono ?_);(case side1 => exact cP (Kd.C_below HR0_0.out HB.out));(case side2 => exact HC0_0.out);rintro e w25 ⟨rfl, hb⟩;refine ⟨_, rfl, ?_⟩;have n0_ := aM (blk_below (g := gb617) (o := .cells #[.slice A0_0 l0_0.length c0_0] 80 (0, 0)) (by exact kP BK617.out) hb);have n1_ := aM (blk_below (g := gb618) (o := .cells #[.int .i64 a1_0, .int .i64 a1_1] 75 (0, 0)) (by exact kP BK618.out) hb);have n2_ := aM (below_step (by exact bB) hb);clear BK617;clear BK618;clear HB;have BK617 := n0_;have BK618 := n1_;have HB := n2_;clear n0_ n1_ n2_;(try clear hb);(try clear hb2);(try clear hk);(try clear hi)))
 have n0_ := aM (blk_drew BK617.out)
 have n1_ := aM (blk_drew BK618.out)
 have n2_ := aM (below_drew1 HB.out)
 clear BK617
 clear BK618
 clear HB
 have BK617 := n0_
 have BK618 := n1_
 have HB := n2_
 clear n0_ n1_ n2_
 refine start_ (n := 10) (S := fun w' => w'.cell? ⟨gb617, 0, none⟩ = some (.slice A0_0 l0_0.length c0_0) ∧ w'.cell? ⟨gb618, 0, none⟩ = some (.int .i64 a1_0) ∧ w'.cell? ⟨gb618, 1, none⟩ = some (.int .i64 a1_1)) (ds := []) #[false,false,false,false,false,false,false,false,false,false] (by kernel_rfl) rfl rfl ⟨(blk_cell BK617.out 0).trans rfl, (blk_cell BK618.out 0).trans rfl, (blk_cell BK618.out 1).trans rfl⟩ (fun hHeld => ?_);refine with_tabW impl_net_fightFire.tab3 impl_net_fightFire.bits3 (fun HT_ HW_ => ?_)
 generalize w25.drew = w26 at BK617 BK618 HB hHeld ⊢
 refine pure_ (i := 2) (N := some 29) (v := ?_) (a' := ?_) #[false,false,true,false,false,false,false,false,false,false] rfl rfl (any_of HT_.out (by kernel_rfl)) (fun _ _ _ h => h) (Or.inl ⟨by rfl, ?_⟩) ?_ ?_
 rotate_left
 ·intro w'
  go_simp
  with_reducible rfl
 rotate_left
 ·exact aP
 refine pure_ (i := 5) (N := some 32) (v := ?_) (a' := ?_) #[false,false,true,false,false,true,false,false,false,false] rfl rfl (any_of HT_.out (by kernel_rfl)) (fun _ _ _ h => h) (Or.inl ⟨by rfl, ?_⟩) ?_ ?_
 rotate_left
 ·intro w'
  go_simp
  with_reducible rfl
 rotate_left
 ·exact aP
 refine take_ (i := 0) (N := some 27) (v := ?_) (a' := ?_) #[true,false,true,false,false,true,false,false,false,false] rfl rfl (take_ofW HT_.out HW_.out (by kernel_rfl)) (fun _ _ _ h => h) (Or.inl ⟨by rfl, ?_⟩) hHeld ?_ ?_
 rotate_left
 ·rintro w' ⟨s0, s1, s2⟩
  go_simp
  with_reducible rfl
 rotate_left
 ·exact aP
 refine take_ (i := 3) (N := some 30) (v := ?_) (a' := ?_) #[true,false,true,true,false,true,false,false,false,false] rfl rfl (take_ofW HT_.out HW_.out (by kernel_rfl)) (fun _ _ _ h => h) (Or.inl ⟨by rfl, ?_⟩) hHeld ?_ ?_
 rotate_left
 ·rintro w' ⟨s0, s1, s2⟩
  go_simp
  with_reducible rfl
 rotate_left
 ·exact aP
 refine take_ (i := 6) (N := some 33) (v := ?_) (a' := ?_) #[true,false,true,true,false,true,true,false,false,false] rfl rfl (take_ofW HT_.out HW_.out (by kernel_rfl)) (fun _ _ _ h => h) (Or.inl ⟨by rfl, ?_⟩) hHeld ?_ ?_
 rotate_left
 ·rintro w' ⟨s0, s1, s2⟩
  go_simp
  with_reducible rfl
 rotate_left
 ·exact aP
 refine one_ (i := 1) (N := some 28) #[true,true,true,true,false,true,true,false,false,false] rfl rfl (one_of HT_.out (by kernel_rfl)) (by decide) (fun K hK => ?_)
 refine goes_ Try.func73 (by kernel_rfl) rfl #[.agg #[.slice A0_0 l0_0.length c0_0]] (by rfl) rfl rfl mM ?_
 with_reducible refine (impl_net_all.calls _ _ l0_0 t622 _ ?side1 ?side2 A16.out).mono ?_
 (case side1 => exact cP (Kd.C_below HR0_0.out HB.out))
 (case side2 => exact HC0_0.out)
 rintro e w27 ⟨rfl, hb⟩
 refine ⟨_, rfl, ?_⟩
 have n0_ := aM (blk_below (g := gb617) (o := .cells #[.slice A0_0 l0_0.length c0_0] 80 (0, 0)) (by exact kP BK617.out) hb)
 have n1_ := aM (blk_below (g := gb618) (o := .cells #[.int .i64 a1_0, .int .i64 a1_1] 75 (0, 0)) (by exact kP BK618.out) hb)
 have n2_ := aM (below_step (by exact bB) hb)
 clear BK617
 clear BK618
 clear HB
 have BK617 := n0_
 have BK618 := n1_
 have HB := n2_
 clear n0_ n1_ n2_
 (try clear hb)
 (try clear hb2)
 (try clear hk)
 (try clear hi)
 refine hK.out _ _ ⟨(blk_cell BK617.out 0).trans rfl, (blk_cell BK618.out 0).trans rfl, (blk_cell BK618.out 1).trans rfl⟩ (fun hHeld => ?_)
 clear hK K
 refine norm_ (a' := ?_) ?_ ?_
 rotate_left
 ·show Act.put _ (some 28) _ = _
  simp only [Act.put, List.setIfInBounds_toArray, List.set_cons_zero, List.set_cons_succ, i64_w, i32_w]
  rfl
 refine pure_ (i := 4) (N := some 31) (v := ?_) (a' := ?_) #[true,true,true,true,true,true,true,false,false,false] rfl rfl (any_of HT_.out (by kernel_rfl)) (fun _ _ _ h => h) (Or.inl ⟨by rfl, ?_⟩) ?_ ?_
 rotate_left
 ·intro w'
  go_simp
  with_reducible rfl
 rotate_left
 ·exact aP
 refine pure_ (i := 7) (N := some 34) (v := ?_) (a' := ?_) #[true,true,true,true,true,true,true,true,false,false] rfl rfl (any_of HT_.out (by kernel_rfl)) (fun _ _ _ h => h) (Or.inl ⟨by rfl, ?_⟩) ?_ ?_
 rotate_left
 ·intro w'
  go_simp
  with_reducible rfl
 rotate_left
 ·exact aP
 refine one_ (i := 8) (N := some 35) #[true,true,true,true,true,true,true,true,true,false] rfl rfl (one_of HT_.out (by kernel_rfl)) (by decide) (fun K hK => ?_)
 refine goes_ Try.func71 (by kernel_rfl) rfl #[.int .i64 (Go.bits .andNot .i64 (Go.bits .andNot .i64 t622 a1_0) a1_1)] (by rfl) rfl rfl mM ?_
 with_reducible refine (impl_setOf.calls k (Go.bits .andNot .i64 (Go.bits .andNot .i64 t622 a1_0) a1_1) t623 _ A17.out).mono ?_
 rintro e w28 ⟨v624, rfl, ho0, hb⟩
 refine ⟨_, rfl, ?_⟩
 have n0_ := aM (Kd.R_lower (Kd.R_newM (M := fun k_ => (w.heap.size ≤ k_)) ho0 (below_size (by exact bB)) (fun k_ h_ => h_)) (below_size (by exact bB)))
 have n1_ := aM (blk_below (g := gb617) (o := .cells #[.slice A0_0 l0_0.length c0_0] 80 (0, 0)) (by exact kP BK617.out) hb)
 have n2_ := aM (blk_below (g := gb618) (o := .cells #[.int .i64 a1_0, .int .i64 a1_1] 75 (0, 0)) (by exact kP BK618.out) hb)
 have n3_ := aM (below_step (by exact bB) hb)
 clear BK617
 clear BK618
 clear HB
 have HO625 := n0_
 have BK617 := n1_
 have BK618 := n2_
 have HB := n3_
 clear n0_ n1_ n2_ n3_
 (try clear hb)
 (try clear hb2)
 (try clear hk)
 (try clear hi)
 (try clear ho0)
 refine hK.out _ _ ⟨(blk_cell BK617.out 0).trans rfl, (blk_cell BK618.out 0).trans rfl, (blk_cell BK618.out 1).trans rfl⟩ (fun hHeld => ?_)
 clear hK K
 refine norm_ (a' := ?_) ?_ ?_
 rotate_left
 ·show Act.put _ (some 35) _ = _
  simp only [Act.put, List.setIfInBounds_toArray, List.set_cons_zero, List.set_cons_succ, i64_w, i32_w]
  rfl
 refine pure_ (i := 9) (N := some 8) (v := ?_) (a' := ?_) #[true,true,true,true,true,true,true,true,true,true] rfl rfl (any_of HT_.out (by kernel_rfl)) (fun _ _ _ h => h) (Or.inl ⟨by rfl, ?_⟩) ?_ ?_
 rotate_left
 ·intro w'
  go_simp
  with_reducible rfl
 rotate_left
 ·exact aP
 refine done_ (done_of HT_.out (by kernel_rfl)) ?_
 obtain ⟨Ao29, co29, eo29⟩ := Kd.R_slice HO625.out
 subst eo29
 try go_wp2_with (first | ((with_reducible refine gate_callee (f := 128) rfl ?_);refine goesL_ (some 41) rfl rfl Try.func128 (by kernel_rfl) rfl #[.slice Ao29 t623.length co29, .int .i64 ji18] rfl (by (try simp only [List.map_toArray, List.map_cons, List.map_nil]);first | done | (simp only [hji18];rfl) | rfl | (simp only [List.length_drop, List.length_take];rfl)) ?_;(with_reducible refine (impl_subsetsOf.calls k _ _ t623 ji18 t626 _ ?side1 ?side2 A19.out).mono ?_);(case side1 => exact cP (Kd.R_reads' HO625.out).2.2);(case side2 => exact (Kd.R_reads' HO625.out).2.1);rintro e w30 ⟨v627, rfl, ho0, hb⟩;refine ⟨_, rfl, ?_⟩;have n0_ := aM (Kd.R_below (by exact rP HO625.out) hb);have n1_ := aM (Kd.N_lower (Kd.N_mono (ok' := fun k_ => (w.heap.size ≤ k_) ∧ some k_ ≠ (.slice Ao29 t623.length co29 : Value).ownBlock ∧ k_ ≠ gb617 ∧ k_ ≠ gb618) (Kd.S_N (Kd.S_bound ho0)) (fun k_ hk_ => ⟨(Nat.le_trans (below_size (by exact bB)) hk_.2.1), (Kd.fresh' (Kd.R_lt (by exact rP HO625.out)) k_ hk_.2.1), (Kd.freshB (g := gb617) (o := .cells #[.slice A0_0 l0_0.length c0_0] 80 (0, 0)) (by exact kP BK617.out) k_ hk_.2.1), (Kd.freshB (g := gb618) (o := .cells #[.int .i64 a1_0, .int .i64 a1_1] 75 (0, 0)) (by exact kP BK618.out) k_ hk_.2.1)⟩)) (below_size (by exact bB)));have n2_ := aM (blk_below (g := gb617) (o := .cells #[.slice A0_0 l0_0.length c0_0] 80 (0, 0)) (by exact kP BK617.out) hb);have n3_ := aM (blk_below (g := gb618) (o := .cells #[.int .i64 a1_0, .int .i64 a1_1] 75 (0, 0)) (by exact kP BK618.out) hb);have n4_ := aM (below_step (by exact bB) hb);clear HO625;clear BK617;clear BK618;clear HB;have HO625 := n0_;have HO628 := n1_;have BK617 := n2_;have BK618 := n3_;have HB := n4_;clear n0_ n1_ n2_ n3_ n4_;(try clear hb);(try clear hb2);(try clear hk);(try clear hi);(try clear ho0);obtain ⟨Ao31, co31, eo31⟩ := Kd.N_slice HO628.out;subst eo31))
 go_loopg [9, 10, 43] k (fun kq v9 v10 v43 w' => ∃ (x9_1 : Int) (x10_1 : List (List Int)) (x43_1 : Int), v9 = .int .i64 x9_1 ∧ v43 = .int .i64 x43_1 ∧ Aside0 (impl_net_fightFire.l0 kq a2 x9_1 x10_1 t626 (t626.length : Int) x43_1 l0_0 a1_0 a1_1 = some (r1, r2)) ∧ Aside0 (kq ≤ k) ∧ Aside0 (Kd.N (Kd.slice 3 (Kd.int .i64)) 28 w' w.heap.size (fun k_ => (w.heap.size ≤ k_) ∧ some k_ ≠ ((.slice Ao31 t626.length co31) : Value).ownBlock ∧ k_ ≠ gb617 ∧ k_ ≠ gb618) v10 x10_1) ∧ Aside0 (Kd.N (Kd.slice 3 (Kd.int .i64)) 28 w' w.heap.size (fun k_ => (w.heap.size ≤ k_) ∧ some k_ ≠ (v10 : Value).ownBlock ∧ k_ ≠ gb617 ∧ k_ ≠ gb618) (.slice Ao31 t626.length co31) t626) ∧ Aside0 (w'.heap[gb617]? = some (.cells #[(.slice A0_0 l0_0.length c0_0)] 80 (0, 0))) ∧ Aside0 (w'.heap[gb618]? = some (.cells #[.int .i64 a1_0, .int .i64 a1_1] 75 (0, 0))) ∧ Aside0 (Below w.heap.size w w'))
 case atStart => exact ⟨((-1)), (([] : List (List Int))), (0), (by first | rfl | (simp;done) | (simp [*];done)), (by first | rfl | (simp;done) | (simp [*];done)), H', ⟨Nat.le_refl _⟩, ⟨by first | exact Kd.S_nil _ _ _ _ _ | exact Kd.N_nil _ _ _ _ _ | exact Kd.V_nil _ _ _ _ _ | exact Kd.Q_nil _ _ _ _ _ | exact Kd.R_nil _ _ _ _ _⟩, ⟨by (with_reducible repeat (first | apply Kd.N_alloc | apply Kd.N_drewN | apply Kd.N_drew));exact Kd.N_mono HO628.out (fun _ hk => ⟨hk.1, ⟨(by simp [Value.ownBlock]), ⟨hk.2.2.1, hk.2.2.2⟩⟩⟩)⟩, ⟨by exact kP BK617.out⟩, ⟨by exact kP BK618.out⟩, ⟨by exact bB⟩⟩
 case round =>
  clear H'
  try clear c1
  try clear c2
  try clear p2
  try clear c5
  try clear c5b0
  try clear c5b1
  try clear p6
  try clear c7
  try clear c10
  try clear c12
  try clear c22
  try clear hcz11_0
  try clear hcz12_0
  try clear hcz12_1
  try clear hcz23_0
  try clear hcz24_0
  try clear hcz24_1
  try clear hfz11_0
  try clear hfz12_0
  try clear hfz12_1
  try clear hfz23_0
  try clear hfz24_0
  try clear hfz24_1
  obtain ⟨x9_1, x10_1, x43_1, rfl, rfl, HA, HK1, HO_10, HO_41, BK617, BK618, HB⟩ := hrel
  cases gk with
  | zero => exact absurd HA.out (by simp [impl_net_fightFire.l0])
  | succ k1 =>
   have H := HA.out
   clear HA
   simp only [impl_net_fightFire.l0] at H
   by_cases c32 : x43_1 < (t626.length : Int)
   rotate_left
   ·rw [if_neg c32] at H
    have c32b0 : decide (x43_1 < (t626.length : Int)) = false := decide_eq_false c32
    clear c32
    simp only [Option.some.injEq, Prod.mk.injEq] at H
    obtain ⟨rfl, rfl⟩ := H
    go_wp2
    go_ret2
    exact ⟨_, by first | rfl | (simp [errW_none, errW_some] <;> rfl) | (simp only [← hji18];first | rfl | (simp [errW_none, errW_some] <;> rfl)) | (simp [*, errW_none, errW_some] <;> rfl), by (with_reducible repeat (first | apply Kd.N_alloc | apply Kd.N_drewN | apply Kd.N_drew));exact Kd.N_mono HO_10.out (fun _ hk => hk.1), by exact bB⟩
   rw [if_pos c32] at H
   have c32b0 : decide (x43_1 < (t626.length : Int)) = true := decide_eq_true c32
   clear c32
   by_cases c33 : 0 ≤ x43_1
   rotate_left
   ·rw [if_neg c33] at H
    exact absurd H (by simp)
   rw [if_pos c33] at H
   have c33b0 : decide (0 ≤ x43_1) = true := decide_eq_true c33
   clear c33
   by_cases c34 : x43_1 < (t626.length : Int)
   rotate_left
   ·rw [if_neg c34] at H
    exact absurd H (by simp)
   rw [if_pos c34] at H
   have c34b0 : decide (x43_1 < (t626.length : Int)) = true := decide_eq_true c34
   clear c34
   replace H := Option.bind_eq_some_iff.mp H
   obtain ⟨t630, A350, H⟩ := H
   replace H : ((impl_net_threatened.f k1 l0_0 a1_0 (Go.bits .or .i64 a1_1 t630)).bind fun t632 => ((impl_net_fightFire.f k1 l0_0 (Go.bits .or .i64 a1_0 t632) (Go.bits .or .i64 a1_1 t630) a2).bind fun bt633 => (if bt633.1 > x9_1 then ((some (([rd_L3 t626 x43_1] : List (List Int)) : List (List Int))).bind fun y637 => (if y637.length + bt633.2.length < 5864062014805 then (impl_net_fightFire.l0 k1 a2 bt633.1 (y637 ++ bt633.2) t626 (t626.length : Int) (wrap64 (x43_1 + 1)) l0_0 a1_0 a1_1) else (none))) else (impl_net_fightFire.l0 k1 a2 x9_1 x10_1 t626 (t626.length : Int) (wrap64 (x43_1 + 1)) l0_0 a1_0 a1_1)))) = some (r1, r2) := H
   have A35 := Aside0.mk A350
   clear A350
   replace H := Option.bind_eq_some_iff.mp H
   obtain ⟨t632, A360, H⟩ := H
   replace H : ((impl_net_fightFire.f k1 l0_0 (Go.bits .or .i64 a1_0 t632) (Go.bits .or .i64 a1_1 t630) a2).bind fun bt633 => (if bt633.1 > x9_1 then ((some (([rd_L3 t626 x43_1] : List (List Int)) : List (List Int))).bind fun y637 => (if y637.length + bt633.2.length < 5864062014805 then (impl_net_fightFire.l0 k1 a2 bt633.1 (y637 ++ bt633.2) t626 (t626.length : Int) (wrap64 (x43_1 + 1)) l0_0 a1_0 a1_1) else (none))) else (impl_net_fightFire.l0 k1 a2 x9_1 x10_1 t626 (t626.length : Int) (wrap64 (x43_1 + 1)) l0_0 a1_0 a1_1))) = some (r1, r2) := H
   have A36 := Aside0.mk A360
   clear A360
   replace H := Option.bind_eq_some_iff.mp H
   obtain ⟨⟨t633, t634⟩, A370, H⟩ := H
   replace H : (if t633 > x9_1 then ((some (([rd_L3 t626 x43_1] : List (List Int)) : List (List Int))).bind fun y637 => (if y637.length + t634.length < 5864062014805 then (impl_net_fightFire.l0 k1 a2 t633 (y637 ++ t634) t626 (t626.length : Int) (wrap64 (x43_1 + 1)) l0_0 a1_0 a1_1) else (none))) else (impl_net_fightFire.l0 k1 a2 x9_1 x10_1 t626 (t626.length : Int) (wrap64 (x43_1 + 1)) l0_0 a1_0 a1_1)) = some (r1, r2) := H
   have A37 := Aside0.mk A370
   clear A370
   by_cases c38 : t633 > x9_1
   rotate_left
   ·rw [if_neg c38] at H
    have c38b0 : decide (x9_1 < t633) = false := decide_eq_false c38
    clear c38
    have H' := Aside0.mk H
    clear H
    have p629 : 0 ≤ (x43_1 : Int) := oA
    have q629 : x43_1 < (t626.length : Int) := oA
    obtain ⟨ad629, A629_0, c629_0, e629, hx629_0, hl629_0, hi629_0⟩ := at_L3 (Kd.N_reads' HO_41.out).2.2 x43_1 p629 q629
    cases e629
    obtain ⟨ce629, hce629, hMe629, hcc629⟩ := Kd.N_get HO_41.out [] x43_1 p629 (by first | exact q629 | exact oA | (have e_ := (Kd.N_reads' HO_41.out).1;omega))
    obtain ⟨ua629_0, uc629_0, rfl, ul629_0, ge629_0⟩ := Kd.FK_slice_open hMe629
    have hv629_0 := hcc629 0 _ rfl
    rw [Nat.add_zero, show ((Kd.slice 3 (Kd.int .i64))).sz = 1 from rfl, Nat.mul_one] at hv629_0
    replace hv629_0 := Option.some.inj (hv629_0.symm.trans hx629_0)
    injection hv629_0 with hva_ hvn_ hvc_
    rw [hva_] at ge629_0
    rw [hvc_] at ul629_0
    have HL629_0 := aM (show Kd.V (Kd.int .i64) 3 _ w.heap.size _ _ (rd_L3 t626 x43_1) from Kd.V_mk ul629_0 ge629_0)
    clear hva_ hvn_ hvc_ ge629_0 ul629_0
    clear hcc629 hce629
    have HR629_0 := Aside0.mk hi629_0
    have HC629_0 := Aside0.mk hl629_0
    clear hi629_0 hl629_0
    replace p629 := eq_true p629
    replace q629 := eq_true q629
    try go_wp2
    have n0_ := aM (Kd.N_drew HO_10.out)
    have n1_ := aM (Kd.N_drew HO_41.out)
    have n2_ := aM (Kd.V_drew HL629_0.out)
    have n3_ := aM (blk_drew BK617.out)
    have n4_ := aM (blk_drew BK618.out)
    have n5_ := aM (Kd.C_drew HR629_0.out)
    have n6_ := aM (below_drew1 HB.out)
    clear HO_10
    clear HO_41
    clear HL629_0
    clear BK617
    clear BK618
    clear HR629_0
    clear HB
    have HO_10 := n0_
    have HO_41 := n1_
    have HL629_0 := n2_
    have BK617 := n3_
    have BK618 := n4_
    have HR629_0 := n5_
    have HB := n6_
    clear n0_ n1_ n2_ n3_ n4_ n5_ n6_
    refine start_ (n := 10) (S := fun w' => w'.cell? ⟨gb618, 0, none⟩ = some (.int .i64 a1_0) ∧ w'.cell? ⟨gb618, 1, none⟩ = some (.int .i64 a1_1)) (ds := []) #[false,false,false,false,false,false,false,false,false,false] (by kernel_rfl) rfl rfl ⟨(blk_cell BK618.out 0).trans rfl, (blk_cell BK618.out 1).trans rfl⟩ (fun hHeld => ?_);refine with_tabW impl_net_fightFire.tab8 impl_net_fightFire.bits8 (fun HT_ HW_ => ?_)
    generalize wr.drew = w59 at HO_10 HO_41 HL629_0 BK617 BK618 HR629_0 HB hHeld ⊢
    refine pure_ (i := 0) (N := some 47) (v := ?_) (a' := ?_) #[true,false,false,false,false,false,false,false,false,false] rfl rfl (any_of HT_.out (by kernel_rfl)) (fun _ _ _ h => h) (Or.inl ⟨by rfl, ?_⟩) ?_ ?_
    rotate_left
    ·intro w'
     go_simp
     with_reducible rfl
    rotate_left
    ·exact aP
    refine pure_ (i := 2) (N := some 49) (v := ?_) (a' := ?_) #[true,false,true,false,false,false,false,false,false,false] rfl rfl (any_of HT_.out (by kernel_rfl)) (fun _ _ _ h => h) (Or.inl ⟨by rfl, ?_⟩) ?_ ?_
    rotate_left
    ·intro w'
     go_simp
     with_reducible rfl
    rotate_left
    ·exact aP
    refine pure_ (i := 4) (N := some 51) (v := ?_) (a' := ?_) #[true,false,true,false,true,false,false,false,false,false] rfl rfl (any_of HT_.out (by kernel_rfl)) (fun _ _ _ h => h) (Or.inl ⟨by rfl, ?_⟩) ?_ ?_
    rotate_left
    ·intro w'
     go_simp
     with_reducible rfl
    rotate_left
    ·exact aP
    refine take_ (i := 1) (N := some 48) (v := ?_) (a' := ?_) #[true,true,true,false,true,false,false,false,false,false] rfl rfl (take_ofW HT_.out HW_.out (by kernel_rfl)) (fun _ _ _ h => h) (Or.inl ⟨by rfl, ?_⟩) hHeld ?_ ?_
    rotate_left
    ·rintro w' ⟨s0, s1⟩
     go_simp
     with_reducible rfl
    rotate_left
    ·exact aP
    refine take_ (i := 3) (N := some 50) (v := ?_) (a' := ?_) #[true,true,true,true,true,false,false,false,false,false] rfl rfl (take_ofW HT_.out HW_.out (by kernel_rfl)) (fun _ _ _ h => h) (Or.inl ⟨by rfl, ?_⟩) hHeld ?_ ?_
    rotate_left
    ·rintro w' ⟨s0, s1⟩
     go_simp
     with_reducible rfl
    rotate_left
    ·exact aP
    refine join_ (σ := Nat) 1 #[true,true,true,true,true,true,true,true,true,false] (fun s_ => [(52, .int .i64 t630), (13, .pointer (some ⟨s_, 0, none⟩)), (53, .int .i64 (Go.bits .or .i64 a1_1 t630)), (54, .agg #[.int .i64 a1_0, .int .i64 (Go.bits .or .i64 a1_1 t630)])]) (fun s_ w' => (w'.cell? ⟨gb618, 0, none⟩ = some (.int .i64 a1_0) ∧ w'.cell? ⟨gb618, 1, none⟩ = some (.int .i64 a1_1)) ∧ (Kd.V (Kd.int .i64) 3 w' w.heap.size (fun k_ => (w.heap.size ≤ k_) ∧ some k_ ≠ (u10 : Value).ownBlock ∧ some k_ ≠ (.slice (some ad629) t626.length co31 : Value).ownBlock ∧ k_ ≠ gb617 ∧ k_ ≠ gb618 ∧ k_ ≠ s_) (.slice A629_0 (rd_L3 t626 x43_1).length c629_0) (rd_L3 t626 x43_1)) ∧ (Kd.N (Kd.slice 3 (Kd.int .i64)) 28 w' w.heap.size (fun k_ => (w.heap.size ≤ k_) ∧ some k_ ≠ (.slice (some ad629) t626.length co31 : Value).ownBlock ∧ k_ ≠ gb617 ∧ k_ ≠ gb618 ∧ k_ ≠ s_) u10 x10_1) ∧ (Kd.N (Kd.slice 3 (Kd.int .i64)) 28 w' w.heap.size (fun k_ => (w.heap.size ≤ k_) ∧ some k_ ≠ (u10 : Value).ownBlock ∧ k_ ≠ gb617 ∧ k_ ≠ gb618 ∧ k_ ≠ s_) (.slice (some ad629) t626.length co31) t626) ∧ (w'.heap[gb617]? = some (.cells #[.slice A0_0 l0_0.length c0_0] 80 (0, 0))) ∧ (w'.heap[gb618]? = some (.cells #[.int .i64 a1_0, .int .i64 a1_1] 75 (0, 0))) ∧ (w'.heap[s_]? = some (.cells #[.int .i64 0, .int .i64 0] 75 (0, 0))) ∧ (w.heap.size ≤ s_) ∧ (w.heap.size ≤ s_) ∧ (gb617 ≠ s_) ∧ (s_ ≠ gb617) ∧ (gb618 ≠ s_) ∧ (s_ ≠ gb618) ∧ (Below w.heap.size w w')) ?_ ?_
    rotate_left
    ·intro hCont
     refine two_ (i := 5) (j := 8) (Ni := some 52) (Nj := some 13) #[true,true,true,true,true,true,false,false,false,false] #[true,true,true,true,true,false,false,false,true,false] rfl rfl rfl rfl (two_of HT_.out (by kernel_rfl)) (by decide) (by decide) (fun K hK => ?_) (fun K hK => ?_)
     ·skip
      refine goes_ Try.func89 (by kernel_rfl) rfl #[.slice A629_0 (rd_L3 t626 x43_1).length c629_0] (by rfl) rfl rfl mM ?_
      with_reducible refine (impl_maskOf.calls k1 _ _ (rd_L3 t626 x43_1) t630 _ ?side1 ?side2 A35.out).mono ?_
      (case side1 => exact cP (by repeat (first | (with_reducible exact HR629_0.out) | (with_reducible refine Kd.C_alloc ?_ _) | (with_reducible refine Kd.C_drewN ?_ _) | (with_reducible refine Kd.C_drew ?_) | exact HR629_0.out)))
      (case side2 => exact HC629_0.out)
      rintro e w' ⟨rfl, ⟨nd, rfl⟩⟩
      refine ⟨_, rfl, ?_⟩
      refine hK.out _ _ ⟨(blk_cell BK618.out 0).trans rfl, (blk_cell BK618.out 1).trans rfl⟩ (fun hHeld => ?_)
      clear hK K
      refine norm_ (a' := ?_) ?_ ?_
      rotate_left
      ·show Act.put _ (some 52) _ = _
       simp only [Act.put, List.setIfInBounds_toArray, List.set_cons_zero, List.set_cons_succ, i64_w, i32_w]
       rfl
      refine pure_ (i := 6) (N := some 53) (v := ?_) (a' := ?_) #[true,true,true,true,true,true,true,false,false,false] rfl rfl (any_of HT_.out (by kernel_rfl)) (fun _ _ _ h => h) (Or.inl ⟨by rfl, ?_⟩) ?_ ?_
      rotate_left
      ·intro w'
       go_simp
       with_reducible rfl
      rotate_left
      ·exact aP
      refine pure_ (i := 7) (N := some 54) (v := ?_) (a' := ?_) #[true,true,true,true,true,true,true,true,false,false] rfl rfl (any_of HT_.out (by kernel_rfl)) (fun _ _ _ h => h) (Or.inl ⟨by rfl, ?_⟩) ?_ ?_
      rotate_left
      ·intro w'
       go_simp
       with_reducible rfl
      rotate_left
      ·exact aP
      refine one_ (i := 8) (N := some 13) #[true,true,true,true,true,true,true,true,true,false] rfl rfl (one_of HT_.out (by kernel_rfl)) (by decide) (fun K hK => ?_)
      refine box_step ?hg (N := 13) ?hd (cs := #[.int .i64 0, .int .i64 0]) (t := 75) ?hr ?_;(case hd => rfl);(case hg => rfl);(case hr => first | (go_simp;done) | (go_simp;rfl))
      intro gb631 hg w60 hbox hb
      have n0_ := aM (Kd.N_below (Kd.N_elderB (by (with_reducible repeat (first | apply Kd.N_alloc | apply Kd.N_drewN | apply Kd.N_drew));exact HO_10.out) gb631 (Nat.le_of_eq hg.symm)) hb)
      have n1_ := aM (Kd.N_below (Kd.N_elderB (by (with_reducible repeat (first | apply Kd.N_alloc | apply Kd.N_drewN | apply Kd.N_drew));exact HO_41.out) gb631 (Nat.le_of_eq hg.symm)) hb)
      have n2_ := aM (Kd.V_below (Kd.V_elderB (by (with_reducible repeat (first | apply Kd.V_alloc | apply Kd.V_drewN | apply Kd.V_drew));exact HL629_0.out) gb631 (Nat.le_of_eq hg.symm)) hb)
      have n3_ := aM (blk_below (g := gb617) (o := .cells #[.slice A0_0 l0_0.length c0_0] 80 (0, 0)) (by exact kP BK617.out) hb)
      have n4_ := aM (blk_below (g := gb618) (o := .cells #[.int .i64 a1_0, .int .i64 a1_1] 75 (0, 0)) (by exact kP BK618.out) hb)
      have n5_ := aM (Kd.C_below (by repeat (first | (with_reducible exact HR629_0.out) | (with_reducible refine Kd.C_alloc ?_ _) | (with_reducible refine Kd.C_drewN ?_ _) | (with_reducible refine Kd.C_drew ?_) | exact HR629_0.out)) hb)
      have n6_ := aM (below_step (by exact bB) hb)
      have n7_ := aM (hbox)
      have n8_ := aM ((by rw [hg];exact (below_size (by exact bB)) : w.heap.size ≤ gb631))
      have n9_ := aM ((by rw [hg];exact (below_size (by exact bB)) : w.heap.size ≤ gb631))
      have n10_ := aM ((by rw [hg];exact Nat.ne_of_lt (blk_lt (g := gb617) (o := .cells #[.slice A0_0 l0_0.length c0_0] 80 (0, 0)) (by exact kP BK617.out)) : gb617 ≠ gb631))
      have n11_ := aM ((by rw [hg];exact Nat.ne_of_gt (blk_lt (g := gb617) (o := .cells #[.slice A0_0 l0_0.length c0_0] 80 (0, 0)) (by exact kP BK617.out)) : gb631 ≠ gb617))
      have n12_ := aM ((by rw [hg];exact Nat.ne_of_lt (blk_lt (g := gb618) (o := .cells #[.int .i64 a1_0, .int .i64 a1_1] 75 (0, 0)) (by exact kP BK618.out)) : gb618 ≠ gb631))
      have n13_ := aM ((by rw [hg];exact Nat.ne_of_gt (blk_lt (g := gb618) (o := .cells #[.int .i64 a1_0, .int .i64 a1_1] 75 (0, 0)) (by exact kP BK618.out)) : gb631 ≠ gb618))
      clear HO_10
      clear HO_41
      clear HL629_0
      clear BK617
      clear BK618
      clear HR629_0
      clear HB
      have HO_10 := n0_
      have HO_41 := n1_
      have HL629_0 := n2_
      have BK617 := n3_
      have BK618 := n4_
      have HR629_0 := n5_
      have HB := n6_
      have BK631 := n7_
      have GW631 := n8_
      have GE631 := n9_
      have NB617_631 := n10_
      have NB631_617 := n11_
      have NB618_631 := n12_
      have NB631_618 := n13_
      clear n0_ n1_ n2_ n3_ n4_ n5_ n6_ n7_ n8_ n9_ n10_ n11_ n12_ n13_
      clear hb hbox hg
      refine hK.out _ _ ⟨(blk_cell BK618.out 0).trans rfl, (blk_cell BK618.out 1).trans rfl⟩ (fun hHeld => ?_)
      clear hK K
      refine norm_ (a' := ?_) ?_ ?_
      rotate_left
      ·show Act.put _ (some 13) _ = _
       simp only [Act.put, List.setIfInBounds_toArray, List.set_cons_zero, List.set_cons_succ, i64_w, i32_w]
       rfl
      exact norm_ (by simp only [putAll, Act.put, List.setIfInBounds_toArray, List.set_cons_zero, List.set_cons_succ]) (hCont (gb631) _ ⟨hHeld, (by (with_reducible repeat (first | apply Kd.V_alloc | apply Kd.V_drewN | apply Kd.V_drew));exact Kd.V_mono HL629_0.out (fun _ hk => ⟨hk.1.1.1, ⟨hk.1.1.2.1, ⟨hk.1.2, ⟨hk.1.1.2.2.1, ⟨hk.1.1.2.2.2, hk.2⟩⟩⟩⟩⟩)), (by (with_reducible repeat (first | apply Kd.N_alloc | apply Kd.N_drewN | apply Kd.N_drew));exact Kd.N_mono HO_10.out (fun _ hk => ⟨hk.1.1, ⟨hk.1.2.1, ⟨hk.1.2.2.1, ⟨hk.1.2.2.2, hk.2⟩⟩⟩⟩)), (by (with_reducible repeat (first | apply Kd.N_alloc | apply Kd.N_drewN | apply Kd.N_drew));exact Kd.N_mono HO_41.out (fun _ hk => ⟨hk.1.1, ⟨hk.1.2.1, ⟨hk.1.2.2.1, ⟨hk.1.2.2.2, hk.2⟩⟩⟩⟩)), (by exact kP BK617.out), (by exact kP BK618.out), (by exact kP BK631.out), GW631.out, GE631.out, NB617_631.out, NB631_617.out, NB618_631.out, NB631_618.out, (by exact bB)⟩)
     ·skip
      refine box_step ?hg (N := 13) ?hd (cs := #[.int .i64 0, .int .i64 0]) (t := 75) ?hr ?_;(case hd => rfl);(case hg => rfl);(case hr => first | (go_simp;done) | (go_simp;rfl))
      intro gb631 hg w60 hbox hb
      have n0_ := aM (Kd.N_below (Kd.N_elderB (by (with_reducible repeat (first | apply Kd.N_alloc | apply Kd.N_drewN | apply Kd.N_drew));exact HO_10.out) gb631 (Nat.le_of_eq hg.symm)) hb)
      have n1_ := aM (Kd.N_below (Kd.N_elderB (by (with_reducible repeat (first | apply Kd.N_alloc | apply Kd.N_drewN | apply Kd.N_drew));exact HO_41.out) gb631 (Nat.le_of_eq hg.symm)) hb)
      have n2_ := aM (Kd.V_below (Kd.V_elderB (by (with_reducible repeat (first | apply Kd.V_alloc | apply Kd.V_drewN | apply Kd.V_drew));exact HL629_0.out) gb631 (Nat.le_of_eq hg.symm)) hb)
      have n3_ := aM (blk_below (g := gb617) (o := .cells #[.slice A0_0 l0_0.length c0_0] 80 (0, 0)) (by exact kP BK617.out) hb)
      have n4_ := aM (blk_below (g := gb618) (o := .cells #[.int .i64 a1_0, .int .i64 a1_1] 75 (0, 0)) (by exact kP BK618.out) hb)
      have n5_ := aM (Kd.C_below (by repeat (first | (with_reducible exact HR629_0.out) | (with_reducible refine Kd.C_alloc ?_ _) | (with_reducible refine Kd.C_drewN ?_ _) | (with_reducible refine Kd.C_drew ?_) | exact HR629_0.out)) hb)
      have n6_ := aM (below_step (by exact bB) hb)
      have n7_ := aM (hbox)
      have n8_ := aM ((by rw [hg];exact (below_size (by exact bB)) : w.heap.size ≤ gb631))
      have n9_ := aM ((by rw [hg];exact (below_size (by exact bB)) : w.heap.size ≤ gb631))
      have n10_ := aM ((by rw [hg];exact Nat.ne_of_lt (blk_lt (g := gb617) (o := .cells #[.slice A0_0 l0_0.length c0_0] 80 (0, 0)) (by exact kP BK617.out)) : gb617 ≠ gb631))
      have n11_ := aM ((by rw [hg];exact Nat.ne_of_gt (blk_lt (g := gb617) (o := .cells #[.slice A0_0 l0_0.length c0_0] 80 (0, 0)) (by exact kP BK617.out)) : gb631 ≠ gb617))
      have n12_ := aM ((by rw [hg];exact Nat.ne_of_lt (blk_lt (g := gb618) (o := .cells #[.int .i64 a1_0, .int .i64 a1_1] 75 (0, 0)) (by exact kP BK618.out)) : gb618 ≠ gb631))
      have n13_ := aM ((by rw [hg];exact Nat.ne_of_gt (blk_lt (g := gb618) (o := .cells #[.int .i64 a1_0, .int .i64 a1_1] 75 (0, 0)) (by exact kP BK618.out)) : gb631 ≠ gb618))
      clear HO_10
      clear HO_41
      clear HL629_0
      clear BK617
      clear BK618
      clear HR629_0
      clear HB
      have HO_10 := n0_
      have HO_41 := n1_
      have HL629_0 := n2_
      have BK617 := n3_
      have BK618 := n4_
      have HR629_0 := n5_
      have HB := n6_
      have BK631 := n7_
      have GW631 := n8_
      have GE631 := n9_
      have NB617_631 := n10_
      have NB631_617 := n11_
      have NB618_631 := n12_
      have NB631_618 := n13_
      clear n0_ n1_ n2_ n3_ n4_ n5_ n6_ n7_ n8_ n9_ n10_ n11_ n12_ n13_
      clear hb hbox hg
      refine hK.out _ _ ⟨(blk_cell BK618.out 0).trans rfl, (blk_cell BK618.out 1).trans rfl⟩ (fun hHeld => ?_)
      clear hK K
      refine norm_ (a' := ?_) ?_ ?_
      rotate_left
      ·show Act.put _ (some 13) _ = _
       simp only [Act.put, List.setIfInBounds_toArray, List.set_cons_zero, List.set_cons_succ, i64_w, i32_w]
       rfl
      refine one_ (i := 5) (N := some 52) #[true,true,true,true,true,true,false,false,true,false] rfl rfl (one_of HT_.out (by kernel_rfl)) (by decide) (fun K hK => ?_)
      refine goes_ Try.func89 (by kernel_rfl) rfl #[.slice A629_0 (rd_L3 t626 x43_1).length c629_0] (by rfl) rfl rfl mM ?_
      with_reducible refine (impl_maskOf.calls k1 _ _ (rd_L3 t626 x43_1) t630 _ ?side1 ?side2 A35.out).mono ?_
      (case side1 => exact cP (by repeat (first | (with_reducible exact HR629_0.out) | (with_reducible refine Kd.C_alloc ?_ _) | (with_reducible refine Kd.C_drewN ?_ _) | (with_reducible refine Kd.C_drew ?_) | exact HR629_0.out)))
      (case side2 => exact HC629_0.out)
      rintro e w' ⟨rfl, ⟨nd, rfl⟩⟩
      refine ⟨_, rfl, ?_⟩
      refine hK.out _ _ ⟨(blk_cell BK618.out 0).trans rfl, (blk_cell BK618.out 1).trans rfl⟩ (fun hHeld => ?_)
      clear hK K
      refine norm_ (a' := ?_) ?_ ?_
      rotate_left
      ·show Act.put _ (some 52) _ = _
       simp only [Act.put, List.setIfInBounds_toArray, List.set_cons_zero, List.set_cons_succ, i64_w, i32_w]
       rfl
      refine pure_ (i := 6) (N := some 53) (v := ?_) (a' := ?_) #[true,true,true,true,true,true,true,false,true,false] rfl rfl (any_of HT_.out (by kernel_rfl)) (fun _ _ _ h => h) (Or.inl ⟨by rfl, ?_⟩) ?_ ?_
      rotate_left
      ·intro w'
       go_simp
       with_reducible rfl
      rotate_left
      ·exact aP
      refine pure_ (i := 7) (N := some 54) (v := ?_) (a' := ?_) #[true,true,true,true,true,true,true,true,true,false] rfl rfl (any_of HT_.out (by kernel_rfl)) (fun _ _ _ h => h) (Or.inl ⟨by rfl, ?_⟩) ?_ ?_
      rotate_left
      ·intro w'
       go_simp
       with_reducible rfl
      rotate_left
      ·exact aP
      exact norm_ (by simp only [putAll, Act.put, List.setIfInBounds_toArray, List.set_cons_zero, List.set_cons_succ]) (hCont (gb631) _ ⟨hHeld, (by (with_reducible repeat (first | apply Kd.V_alloc | apply Kd.V_drewN | apply Kd.V_drew));exact Kd.V_mono HL629_0.out (fun _ hk => ⟨hk.1.1.1, ⟨hk.1.1.2.1, ⟨hk.1.2, ⟨hk.1.1.2.2.1, ⟨hk.1.1.2.2.2, hk.2⟩⟩⟩⟩⟩)), (by (with_reducible repeat (first | apply Kd.N_alloc | apply Kd.N_drewN | apply Kd.N_drew));exact Kd.N_mono HO_10.out (fun _ hk => ⟨hk.1.1, ⟨hk.1.2.1, ⟨hk.1.2.2.1, ⟨hk.1.2.2.2, hk.2⟩⟩⟩⟩)), (by (with_reducible repeat (first | apply Kd.N_alloc | apply Kd.N_drewN | apply Kd.N_drew));exact Kd.N_mono HO_41.out (fun _ hk => ⟨hk.1.1, ⟨hk.1.2.1, ⟨hk.1.2.2.1, ⟨hk.1.2.2.2, hk.2⟩⟩⟩⟩)), (by exact kP BK617.out), (by exact kP BK618.out), (by exact kP BK631.out), GW631.out, GE631.out, NB617_631.out, NB631_617.out, NB618_631.out, NB631_618.out, (by exact bB)⟩)
    rintro gb631 w61 ⟨hS_, h0_, h1_, h2_, h3_, h4_, h5_, h6_, h7_, h8_, h9_, h10_, h11_, h12_⟩
    have n0_ : Aside0 (Kd.V (Kd.int .i64) 3 w61 w.heap.size (fun k_ => (w.heap.size ≤ k_) ∧ some k_ ≠ (u10 : Value).ownBlock ∧ some k_ ≠ (.slice (some ad629) t626.length co31 : Value).ownBlock ∧ k_ ≠ gb617 ∧ k_ ≠ gb618 ∧ k_ ≠ gb631) (.slice A629_0 (rd_L3 t626 x43_1).length c629_0) (rd_L3 t626 x43_1)) := ⟨h0_⟩
    have n1_ : Aside0 (Kd.N (Kd.slice 3 (Kd.int .i64)) 28 w61 w.heap.size (fun k_ => (w.heap.size ≤ k_) ∧ some k_ ≠ (.slice (some ad629) t626.length co31 : Value).ownBlock ∧ k_ ≠ gb617 ∧ k_ ≠ gb618 ∧ k_ ≠ gb631) u10 x10_1) := ⟨h1_⟩
    have n2_ : Aside0 (Kd.N (Kd.slice 3 (Kd.int .i64)) 28 w61 w.heap.size (fun k_ => (w.heap.size ≤ k_) ∧ some k_ ≠ (u10 : Value).ownBlock ∧ k_ ≠ gb617 ∧ k_ ≠ gb618 ∧ k_ ≠ gb631) (.slice (some ad629) t626.length co31) t626) := ⟨h2_⟩
    have n3_ : Aside0 (w61.heap[gb617]? = some (.cells #[.slice A0_0 l0_0.length c0_0] 80 (0, 0))) := ⟨h3_⟩
    have n4_ : Aside0 (w61.heap[gb618]? = some (.cells #[.int .i64 a1_0, .int .i64 a1_1] 75 (0, 0))) := ⟨h4_⟩
    have n5_ : Aside0 (w61.heap[gb631]? = some (.cells #[.int .i64 0, .int .i64 0] 75 (0, 0))) := ⟨h5_⟩
    have n6_ : Aside0 (w.heap.size ≤ gb631) := ⟨h6_⟩
    have n7_ : Aside0 (w.heap.size ≤ gb631) := ⟨h7_⟩
    have n8_ : Aside0 (gb617 ≠ gb631) := ⟨h8_⟩
    have n9_ : Aside0 (gb631 ≠ gb617) := ⟨h9_⟩
    have n10_ : Aside0 (gb618 ≠ gb631) := ⟨h10_⟩
    have n11_ : Aside0 (gb631 ≠ gb618) := ⟨h11_⟩
    have n12_ : Aside0 (Below w.heap.size w w61) := ⟨h12_⟩
    clear HO_10
    clear HO_41
    clear HL629_0
    clear BK617
    clear BK618
    clear HR629_0
    clear HB
    clear h0_ h1_ h2_ h3_ h4_ h5_ h6_ h7_ h8_ h9_ h10_ h11_ h12_
    have HL629_0 := n0_
    have HO_10 := n1_
    have HO_41 := n2_
    have BK617 := n3_
    have BK618 := n4_
    have BK631 := n5_
    have GW631 := n6_
    have GE631 := n7_
    have NB617_631 := n8_
    have NB631_617 := n9_
    have NB618_631 := n10_
    have NB631_618 := n11_
    have HB := n12_
    clear n0_ n1_ n2_ n3_ n4_ n5_ n6_ n7_ n8_ n9_ n10_ n11_ n12_
    have hHeld : w61.cell? ⟨gb618, 0, none⟩ = some (.int .i64 a1_0) ∧ w61.cell? ⟨gb618, 1, none⟩ = some (.int .i64 a1_1) := hS_
    refine norm_ (a' := ?_) ?_ ?_
    rotate_left
    ·simp only [putAll, Act.put, List.setIfInBounds_toArray, List.set_cons_zero, List.set_cons_succ]
     rfl
    refine one_ (i := 9) (N := none) #[true,true,true,true,true,true,true,true,true,true] rfl rfl (one_of HT_.out (by kernel_rfl)) (by decide) (fun K hK => ?_)
    have hs62 : w61.cell? ⟨gb631, 0, none⟩ = some (.int .i64 0) := (blk_cell BK631.out 0).trans rfl
    have hfs62 := blk_frozen BK631.out 0
    have hns62_0 := NB617_631.out
    have hns62_1 := NB618_631.out
    have hms62_0 := NB631_617.out
    have hms62_1 := NB631_618.out
    have hs63 : w61.cell? ⟨gb631, 1, none⟩ = some (.int .i64 0) := (blk_cell BK631.out 1).trans rfl
    have hfs63 := blk_frozen BK631.out 1
    have hns63_0 := NB617_631.out
    have hns63_1 := NB618_631.out
    have hms63_0 := NB631_617.out
    have hms63_1 := NB631_618.out
    refine skip_ (w1 := ?_) (by rfl) rfl ?_ ?_
    rotate_left
    ·go_simp
     rfl
    refine hK.out _ _ ⟨((cell_far (p := ⟨gb631, _, none⟩) NB618_631.out _).trans (((cell_far (p := ⟨gb631, _, none⟩) NB618_631.out _).trans (hHeld.1)))), ((cell_far (p := ⟨gb631, _, none⟩) NB618_631.out _).trans (((cell_far (p := ⟨gb631, _, none⟩) NB618_631.out _).trans (hHeld.2))))⟩ (fun hHeld => ?_)
    clear hK K
    refine done_ (done_of HT_.out (by kernel_rfl)) ?_
    try go_wp2
    have n0_ : Aside0 (Kd.N (Kd.slice 3 (Kd.int .i64)) 28 ((w61.setCell ⟨gb631, 0, none⟩ (.int .i64 a1_0)).setCell ⟨gb631, 1, none⟩ (.int .i64 (Go.bits .or .i64 a1_1 t630))) w.heap.size (fun k_ => (w.heap.size ≤ k_) ∧ some k_ ≠ (.slice (some ad629) t626.length co31 : Value).ownBlock ∧ k_ ≠ gb617 ∧ k_ ≠ gb618 ∧ k_ ≠ gb631) u10 x10_1) := ⟨by (with_reducible repeat (first | apply Kd.N_alloc | apply Kd.N_drewN | apply Kd.N_drew));exact Kd.N_mono (Kd.N_far (p := ⟨gb631, 1, none⟩) (Kd.N_far (p := ⟨gb631, 0, none⟩) (Kd.N_mono HO_10.out (fun k_ hk => (⟨hk, hk.2.2.2.2⟩ : _ ∧ k_ ≠ gb631))) (fun _ hk => hk.2) (.int .i64 a1_0)) (fun _ hk => hk.2) (.int .i64 (Go.bits .or .i64 a1_1 t630))) (fun _ hk => ⟨hk.1.1, ⟨hk.1.2.1, ⟨hk.1.2.2.1, ⟨hk.1.2.2.2.1, hk.1.2.2.2.2⟩⟩⟩⟩)⟩
    have n1_ : Aside0 (Kd.N (Kd.slice 3 (Kd.int .i64)) 28 ((w61.setCell ⟨gb631, 0, none⟩ (.int .i64 a1_0)).setCell ⟨gb631, 1, none⟩ (.int .i64 (Go.bits .or .i64 a1_1 t630))) w.heap.size (fun k_ => (w.heap.size ≤ k_) ∧ some k_ ≠ (u10 : Value).ownBlock ∧ k_ ≠ gb617 ∧ k_ ≠ gb618 ∧ k_ ≠ gb631) (.slice (some ad629) t626.length co31) t626) := ⟨by (with_reducible repeat (first | apply Kd.N_alloc | apply Kd.N_drewN | apply Kd.N_drew));exact Kd.N_mono (Kd.N_far (p := ⟨gb631, 1, none⟩) (Kd.N_far (p := ⟨gb631, 0, none⟩) (Kd.N_mono HO_41.out (fun k_ hk => (⟨hk, hk.2.2.2.2⟩ : _ ∧ k_ ≠ gb631))) (fun _ hk => hk.2) (.int .i64 a1_0)) (fun _ hk => hk.2) (.int .i64 (Go.bits .or .i64 a1_1 t630))) (fun _ hk => ⟨hk.1.1, ⟨hk.1.2.1, ⟨hk.1.2.2.1, ⟨hk.1.2.2.2.1, hk.1.2.2.2.2⟩⟩⟩⟩)⟩
    have n2_ : Aside0 (Kd.V (Kd.int .i64) 3 ((w61.setCell ⟨gb631, 0, none⟩ (.int .i64 a1_0)).setCell ⟨gb631, 1, none⟩ (.int .i64 (Go.bits .or .i64 a1_1 t630))) w.heap.size (fun k_ => (w.heap.size ≤ k_) ∧ some k_ ≠ (u10 : Value).ownBlock ∧ some k_ ≠ (.slice (some ad629) t626.length co31 : Value).ownBlock ∧ k_ ≠ gb617 ∧ k_ ≠ gb618 ∧ k_ ≠ gb631) (.slice A629_0 (rd_L3 t626 x43_1).length c629_0) (rd_L3 t626 x43_1)) := ⟨by (with_reducible repeat (first | apply Kd.V_alloc | apply Kd.V_drewN | apply Kd.V_drew));exact Kd.V_mono (Kd.V_far (p := ⟨gb631, 1, none⟩) (Kd.V_far (p := ⟨gb631, 0, none⟩) (Kd.V_mono HL629_0.out (fun k_ hk => (⟨hk, hk.2.2.2.2.2⟩ : _ ∧ k_ ≠ gb631))) (fun _ hk => hk.2) (.int .i64 a1_0)) (fun _ hk => hk.2) (.int .i64 (Go.bits .or .i64 a1_1 t630))) (fun _ hk => ⟨hk.1.1, ⟨hk.1.2.1, ⟨hk.1.2.2.1, ⟨hk.1.2.2.2.1, ⟨hk.1.2.2.2.2.1, hk.1.2.2.2.2.2⟩⟩⟩⟩⟩)⟩
    have n3_ : Aside0 (((w61.setCell ⟨gb631, 0, none⟩ (.int .i64 a1_0)).setCell ⟨gb631, 1, none⟩ (.int .i64 (Go.bits .or .i64 a1_1 t630))).heap[gb617]? = some (.cells #[.slice A0_0 l0_0.length c0_0] 80 (0, 0))) := ⟨by refine kP ?_;refine blk_far ?_ NB617_631.out _;refine kP ?_;refine blk_far ?_ NB617_631.out _;exact kP BK617.out⟩
    have n4_ : Aside0 (((w61.setCell ⟨gb631, 0, none⟩ (.int .i64 a1_0)).setCell ⟨gb631, 1, none⟩ (.int .i64 (Go.bits .or .i64 a1_1 t630))).heap[gb618]? = some (.cells #[.int .i64 a1_0, .int .i64 a1_1] 75 (0, 0))) := ⟨by refine kP ?_;refine blk_far ?_ NB618_631.out _;refine kP ?_;refine blk_far ?_ NB618_631.out _;exact kP BK618.out⟩
    have n5_ : Aside0 (((w61.setCell ⟨gb631, 0, none⟩ (.int .i64 a1_0)).setCell ⟨gb631, 1, none⟩ (.int .i64 (Go.bits .or .i64 a1_1 t630))).heap[gb631]? = some (.cells #[.int .i64 a1_0, .int .i64 (Go.bits .or .i64 a1_1 t630)] 75 (0, 0))) := ⟨by refine kP ?_;refine blk_put (cs := #[.int .i64 a1_0, .int .i64 0]) ?_ 1 _ rfl;refine kP ?_;refine blk_put (cs := #[.int .i64 0, .int .i64 0]) ?_ 0 _ rfl;exact kP BK631.out⟩
    have n6_ : Aside0 (Below w.heap.size w ((w61.setCell ⟨gb631, 0, none⟩ (.int .i64 a1_0)).setCell ⟨gb631, 1, none⟩ (.int .i64 (Go.bits .or .i64 a1_1 t630)))) := ⟨by exact bB⟩
    (try clear HO_10)
    (try clear HO_41)
    (try clear HL629_0)
    (try clear BK617)
    (try clear BK618)
    (try clear BK631)
    (try clear HB)
    generalize ((w61.setCell ⟨gb631, 0, none⟩ (.int .i64 a1_0)).setCell ⟨gb631, 1, none⟩ (.int .i64 (Go.bits .or .i64 a1_1 t630))) = w64 at n0_ n1_ n2_ n3_ n4_ n5_ n6_ ⊢
    have HO_10 := n0_
    have HO_41 := n1_
    have HL629_0 := n2_
    have BK617 := n3_
    have BK618 := n4_
    have BK631 := n5_
    have HB := n6_
    clear n0_ n1_ n2_ n3_ n4_ n5_ n6_
    have n0_ := aM (Kd.N_drew HO_10.out)
    have n1_ := aM (Kd.N_drew HO_41.out)
    have n2_ := aM (Kd.V_drew HL629_0.out)
    have n3_ := aM (blk_drew BK617.out)
    have n4_ := aM (blk_drew BK618.out)
    have n5_ := aM (blk_drew BK631.out)
    have n6_ := aM (below_drew1 HB.out)
    clear HO_10
    clear HO_41
    clear HL629_0
    clear BK617
    clear BK618
    clear BK631
    clear HB
    have HO_10 := n0_
    have HO_41 := n1_
    have HL629_0 := n2_
    have BK617 := n3_
    have BK618 := n4_
    have BK631 := n5_
    have HB := n6_
    clear n0_ n1_ n2_ n3_ n4_ n5_ n6_
    refine start_ (n := 8) (S := fun w' => w'.cell? ⟨gb631, 0, none⟩ = some (.int .i64 a1_0) ∧ w'.cell? ⟨gb631, 1, none⟩ = some (.int .i64 (Go.bits .or .i64 a1_1 t630)) ∧ w'.cell? ⟨gb617, 0, none⟩ = some (.slice A0_0 l0_0.length c0_0)) (ds := [7]) #[false,false,false,false,false,false,false,false] (by kernel_rfl) rfl rfl ⟨(blk_cell BK631.out 0).trans rfl, (blk_cell BK631.out 1).trans rfl, (blk_cell BK617.out 0).trans rfl⟩ (fun hHeld => ?_);refine with_tabW impl_net_fightFire.tab9 impl_net_fightFire.bits9 (fun HT_ HW_ => ?_)
    generalize w64.drew = w65 at HO_10 HO_41 HL629_0 BK617 BK618 BK631 HB hHeld ⊢
    refine pure_ (i := 0) (N := some 55) (v := ?_) (a' := ?_) #[true,false,false,false,false,false,false,false] rfl rfl (any_of HT_.out (by kernel_rfl)) (fun _ _ _ h => h) (Or.inl ⟨by rfl, ?_⟩) ?_ ?_
    rotate_left
    ·intro w'
     go_simp
     with_reducible rfl
    rotate_left
    ·exact aP
    refine take_ (i := 1) (N := some 56) (v := ?_) (a' := ?_) #[true,true,false,false,false,false,false,false] rfl rfl (take_ofW HT_.out HW_.out (by kernel_rfl)) (fun _ _ _ h => h) (Or.inl ⟨by rfl, ?_⟩) hHeld ?_ ?_
    rotate_left
    ·rintro w' ⟨s0, s1, s2⟩
     go_simp
     with_reducible rfl
    rotate_left
    ·exact aP
    refine take_ (i := 2) (N := some 57) (v := ?_) (a' := ?_) #[true,true,true,false,false,false,false,false] rfl rfl (take_ofW HT_.out HW_.out (by kernel_rfl)) (fun _ _ _ h => h) (Or.inl ⟨by rfl, ?_⟩) hHeld ?_ ?_
    rotate_left
    ·rintro w' ⟨s0, s1, s2⟩
     go_simp
     with_reducible rfl
    rotate_left
    ·exact aP
    refine take_ (i := 3) (N := some 58) (v := ?_) (a' := ?_) #[true,true,true,true,false,false,false,false] rfl rfl (take_ofW HT_.out HW_.out (by kernel_rfl)) (fun _ _ _ h => h) (Or.inl ⟨by rfl, ?_⟩) hHeld ?_ ?_
    rotate_left
    ·rintro w' ⟨s0, s1, s2⟩
     go_simp
     with_reducible rfl
    rotate_left
    ·exact aP
    refine one_ (i := 4) (N := some 59) #[true,true,true,true,true,false,false,false] rfl rfl (one_of HT_.out (by kernel_rfl)) (by decide) (fun K hK => ?_)
    refine goes_ Try.func122 (by kernel_rfl) rfl #[.agg #[.slice A0_0 l0_0.length c0_0], .agg #[.int .i64 a1_0, .int .i64 (Go.bits .or .i64 a1_1 t630)]] (by rfl) rfl rfl mM ?_
    with_reducible refine (impl_net_threatened.calls k1 _ _ l0_0 a1_0 (Go.bits .or .i64 a1_1 t630) t632 _ ?side1 ?side2 A36.out).mono ?_
    (case side1 => exact cP (Kd.C_below HR0_0.out HB.out))
    (case side2 => exact HC0_0.out)
    rintro e w66 ⟨rfl, hb⟩
    refine ⟨_, rfl, ?_⟩
    have n0_ := aM (Kd.N_below (by (with_reducible repeat (first | apply Kd.N_alloc | apply Kd.N_drewN | apply Kd.N_drew));exact HO_10.out) hb)
    have n1_ := aM (Kd.N_below (by (with_reducible repeat (first | apply Kd.N_alloc | apply Kd.N_drewN | apply Kd.N_drew));exact HO_41.out) hb)
    have n2_ := aM (Kd.V_below (by (with_reducible repeat (first | apply Kd.V_alloc | apply Kd.V_drewN | apply Kd.V_drew));exact HL629_0.out) hb)
    have n3_ := aM (blk_below (g := gb617) (o := .cells #[.slice A0_0 l0_0.length c0_0] 80 (0, 0)) (by exact kP BK617.out) hb)
    have n4_ := aM (blk_below (g := gb618) (o := .cells #[.int .i64 a1_0, .int .i64 a1_1] 75 (0, 0)) (by exact kP BK618.out) hb)
    have n5_ := aM (blk_below (g := gb631) (o := .cells #[.int .i64 a1_0, .int .i64 (Go.bits .or .i64 a1_1 t630)] 75 (0, 0)) (by exact kP BK631.out) hb)
    have n6_ := aM (below_step (by exact bB) hb)
    clear HO_10
    clear HO_41
    clear HL629_0
    clear BK617
    clear BK618
    clear BK631
    clear HB
    have HO_10 := n0_
    have HO_41 := n1_
    have HL629_0 := n2_
    have BK617 := n3_
    have BK618 := n4_
    have BK631 := n5_
    have HB := n6_
    clear n0_ n1_ n2_ n3_ n4_ n5_ n6_
    (try clear hb)
    (try clear hb2)
    (try clear hk)
    (try clear hi)
    refine hK.out _ _ ⟨(blk_cell BK631.out 0).trans rfl, (blk_cell BK631.out 1).trans rfl, (blk_cell BK617.out 0).trans rfl⟩ (fun hHeld => ?_)
    clear hK K
    refine norm_ (a' := ?_) ?_ ?_
    rotate_left
    ·show Act.put _ (some 59) _ = _
     simp only [Act.put, List.setIfInBounds_toArray, List.set_cons_zero, List.set_cons_succ, i64_w, i32_w]
     rfl
    refine pure_ (i := 5) (N := some 60) (v := ?_) (a' := ?_) #[true,true,true,true,true,true,false,false] rfl rfl (any_of HT_.out (by kernel_rfl)) (fun _ _ _ h => h) (Or.inl ⟨by rfl, ?_⟩) ?_ ?_
    rotate_left
    ·intro w'
     go_simp
     with_reducible rfl
    rotate_left
    ·exact aP
    refine pure_ (i := 6) (N := some 61) (v := ?_) (a' := ?_) #[true,true,true,true,true,true,true,false] rfl rfl (any_of HT_.out (by kernel_rfl)) (fun _ _ _ h => h) (Or.inl ⟨by rfl, ?_⟩) ?_ ?_
    rotate_left
    ·intro w'
     go_simp
     with_reducible rfl
    rotate_left
    ·exact aP
    refine last_ (i := 7) (N := none) #[true,true,true,true,true,true,true,true] rfl rfl (one_of HT_.out (by kernel_rfl)) (by decide) (fun K hK => ?_)
    have hs67 : w66.cell? ⟨gb631, 0, none⟩ = some (.int .i64 a1_0) := (blk_cell BK631.out 0).trans rfl
    have hfs67 := blk_frozen BK631.out 0
    have hns67_0 := NB617_631.out
    have hns67_1 := NB618_631.out
    have hms67_0 := NB631_617.out
    have hms67_1 := NB631_618.out
    refine skip_ (w1 := ?_) (by rfl) rfl ?_ ?_
    rotate_left
    ·go_simp
     rfl
    refine hK.out _ _ ?_
    clear hK K
    refine done_ (done_of HT_.out (by kernel_rfl)) ?_
    have hnb68 := NB617_618.out
    have hnc68 := NB618_617.out
    have hnb69 := NB617_631.out
    have hnc69 := NB631_617.out
    have hcz70_0 : w66.cell? ⟨gb617, 0, none⟩ = some (.slice A0_0 l0_0.length c0_0) := (blk_cell BK617.out 0).trans rfl
    have hfz70_0 := blk_frozen BK617.out 0
    have hnb71 := NB631_618.out
    have hnc71 := NB618_631.out
    have hcz72_0 : w66.cell? ⟨gb631, 0, none⟩ = some (.int .i64 a1_0) := (blk_cell BK631.out 0).trans rfl
    have hcz72_1 : w66.cell? ⟨gb631, 1, none⟩ = some (.int .i64 (Go.bits .or .i64 a1_1 t630)) := (blk_cell BK631.out 1).trans rfl
    have hfz72_0 := blk_frozen BK631.out 0
    have hfz72_1 := blk_frozen BK631.out 1
    try go_wp2_with (first | ((with_reducible refine gate_callee (f := 77) rfl ?_);refine goesL_ (some 66) rfl rfl Try.func77 (by kernel_rfl) rfl #[.agg #[.slice A0_0 l0_0.length c0_0], .agg #[.int .i64 (Go.bits .or .i64 a1_0 t632), .int .i64 (Go.bits .or .i64 a1_1 t630)], .int .i64 a2] rfl mM ?_;(with_reducible refine (ih k1 (by have := HK1.out;omega) _ _ l0_0 (Go.bits .or .i64 a1_0 t632) (Go.bits .or .i64 a1_1 t630) a2 t633 t634 _ ?side1 ?side2 A37.out).mono ?_);(case side1 => exact Kd.C_below HR0_0.out (by exact bB));(case side2 => exact HC0_0.out);rintro e w73 ⟨v635, rfl, ho0, hb⟩;refine ⟨_, rfl, ?_⟩;have n0_ := aM (Kd.N_elder' (by (with_reducible repeat (first | apply Kd.N_alloc | apply Kd.N_drewN | apply Kd.N_drew));exact (Kd.N_mono (Kd.N_far (p := ⟨gb631, 0, none⟩) (Kd.N_mono HO_10.out (fun k_ hk => (⟨hk, hk.2.2.2.2⟩ : _ ∧ k_ ≠ gb631))) (fun _ hk => hk.2) (.int .i64 (Go.bits .or .i64 a1_0 t632))) (fun _ h_ => h_.1))) (Kd.N_base ho0) hb);have n1_ := aM (Kd.N_elder' (by (with_reducible repeat (first | apply Kd.N_alloc | apply Kd.N_drewN | apply Kd.N_drew));exact (Kd.N_mono (Kd.N_far (p := ⟨gb631, 0, none⟩) (Kd.N_mono HO_41.out (fun k_ hk => (⟨hk, hk.2.2.2.2⟩ : _ ∧ k_ ≠ gb631))) (fun _ hk => hk.2) (.int .i64 (Go.bits .or .i64 a1_0 t632))) (fun _ h_ => h_.1))) (Kd.N_base ho0) hb);have n2_ := aM (Kd.V_elder' (by (with_reducible repeat (first | apply Kd.V_alloc | apply Kd.V_drewN | apply Kd.V_drew));exact (Kd.V_mono (Kd.V_far (p := ⟨gb631, 0, none⟩) (Kd.V_mono HL629_0.out (fun k_ hk => (⟨hk, hk.2.2.2.2.2⟩ : _ ∧ k_ ≠ gb631))) (fun _ hk => hk.2) (.int .i64 (Go.bits .or .i64 a1_0 t632))) (fun _ h_ => h_.1))) (Kd.N_base ho0) hb);have n3_ := aM (Kd.N_lower (Kd.N_mono (ok' := fun k_ => (w.heap.size ≤ k_) ∧ some k_ ≠ (u10 : Value).ownBlock ∧ some k_ ≠ (.slice (some ad629) t626.length co31 : Value).ownBlock ∧ k_ ≠ gb617 ∧ k_ ≠ gb618 ∧ k_ ≠ gb631) ho0 (fun k_ hk_ => ⟨(Nat.le_trans (below_size (by exact bB)) hk_), (Kd.fresh' (Kd.N_lt (by (with_reducible repeat (first | apply Kd.N_alloc | apply Kd.N_drewN | apply Kd.N_drew));exact (Kd.N_mono (Kd.N_far (p := ⟨gb631, 0, none⟩) (Kd.N_mono HO_10.out (fun k_ hk => (⟨hk, hk.2.2.2.2⟩ : _ ∧ k_ ≠ gb631))) (fun _ hk => hk.2) (.int .i64 (Go.bits .or .i64 a1_0 t632))) (fun _ h_ => h_.1)))) k_ hk_), (Kd.fresh' (Kd.N_lt (by (with_reducible repeat (first | apply Kd.N_alloc | apply Kd.N_drewN | apply Kd.N_drew));exact (Kd.N_mono (Kd.N_far (p := ⟨gb631, 0, none⟩) (Kd.N_mono HO_41.out (fun k_ hk => (⟨hk, hk.2.2.2.2⟩ : _ ∧ k_ ≠ gb631))) (fun _ hk => hk.2) (.int .i64 (Go.bits .or .i64 a1_0 t632))) (fun _ h_ => h_.1)))) k_ hk_), (Kd.freshB (g := gb617) (o := .cells #[.slice A0_0 l0_0.length c0_0] 80 (0, 0)) (by refine kP ?_;refine blk_far ?_ NB617_631.out _;exact kP BK617.out) k_ hk_), (Kd.freshB (g := gb618) (o := .cells #[.int .i64 a1_0, .int .i64 a1_1] 75 (0, 0)) (by refine kP ?_;refine blk_far ?_ NB618_631.out _;exact kP BK618.out) k_ hk_), (Kd.freshB (g := gb631) (o := .cells #[.int .i64 (Go.bits .or .i64 a1_0 t632), .int .i64 (Go.bits .or .i64 a1_1 t630)] 75 (0, 0)) (by refine kP ?_;refine blk_put (cs := #[.int .i64 a1_0, .int .i64 (Go.bits .or .i64 a1_1 t630)]) ?_ 0 _ rfl;exact kP BK631.out) k_ hk_)⟩)) (below_size (by exact bB)));have n4_ := aM (blk_below (g := gb617) (o := .cells #[.slice A0_0 l0_0.length c0_0] 80 (0, 0)) (by refine kP ?_;refine blk_far ?_ NB617_631.out _;exact kP BK617.out) hb);have n5_ := aM (blk_below (g := gb618) (o := .cells #[.int .i64 a1_0, .int .i64 a1_1] 75 (0, 0)) (by refine kP ?_;refine blk_far ?_ NB618_631.out _;exact kP BK618.out) hb);have n6_ := aM (blk_below (g := gb631) (o := .cells #[.int .i64 (Go.bits .or .i64 a1_0 t632), .int .i64 (Go.bits .or .i64 a1_1 t630)] 75 (0, 0)) (by refine kP ?_;refine blk_put (cs := #[.int .i64 a1_0, .int .i64 (Go.bits .or .i64 a1_1 t630)]) ?_ 0 _ rfl;exact kP BK631.out) hb);have n7_ := aM (below_step (by exact bB) hb);clear HO_10;clear HO_41;clear HL629_0;clear BK617;clear BK618;clear BK631;clear HB;have HO_10 := n0_;have HO_41 := n1_;have HL629_0 := n2_;have HO636 := n3_;have BK617 := n4_;have BK618 := n5_;have BK631 := n6_;have HB := n7_;clear n0_ n1_ n2_ n3_ n4_ n5_ n6_ n7_;(try clear hb);(try clear hb2);(try clear hk);(try clear hi);(try clear ho0)))
    go_roundg k1
    case measure => have := HK1.out;omega
    case rel => exact ⟨(x9_1), (x10_1), (wrap64 (x43_1 + 1)), (by first | rfl | (simp;done) | (simp [*];done)), (by first | rfl | (simp;done) | (simp [*];done)), H', ⟨by have := HK1.out;omega⟩, ⟨by (with_reducible repeat (first | apply Kd.N_alloc | apply Kd.N_drewN | apply Kd.N_drew));exact Kd.N_mono HO_10.out (fun _ hk => ⟨hk.1.1, ⟨hk.1.2.1, ⟨hk.1.2.2.1, hk.1.2.2.2.1⟩⟩⟩)⟩, ⟨by (with_reducible repeat (first | apply Kd.N_alloc | apply Kd.N_drewN | apply Kd.N_drew));exact Kd.N_mono HO_41.out (fun _ hk => ⟨hk.1.1, ⟨hk.1.2.1, ⟨hk.1.2.2.1, hk.1.2.2.2.1⟩⟩⟩)⟩, ⟨by exact kP BK617.out⟩, ⟨by exact kP BK618.out⟩, ⟨by exact bB⟩⟩
   rw [if_pos c38] at H
   have c38b0 : decide (x9_1 < t633) = true := decide_eq_true c38
   clear c38
   obtain ⟨y637, hy637⟩ : ∃ y_ : List (List Int), y_ = (([rd_L3 t626 x43_1] : List (List Int))) := ⟨_, rfl⟩
   replace H : (if y637.length + t634.length < 5864062014805 then (impl_net_fightFire.l0 k1 a2 t633 (y637 ++ t634) t626 (t626.length : Int) (wrap64 (x43_1 + 1)) l0_0 a1_0 a1_1) else (none)) = some (r1, r2) := by first | (rw [hy637];with_reducible exact H) | (have H2_ := (Option.bind_some _ _).symm.trans H;rw [hy637];with_reducible exact H2_) | (have H2_ := (Option.bind_some _ _).symm.trans H;with_reducible exact H2_) | with_reducible exact H | (rw [hy637];exact H) | exact H
   have Ny637 := Aside0.mk hy637
   clear hy637
   by_cases c39 : y637.length + t634.length < 5864062014805
   rotate_left
   ·rw [if_neg c39] at H
    exact absurd H (by simp)
   rw [if_pos c39] at H
   have LMc39 := Aside0.mk c39
   clear c39
   obtain ⟨y640, hy640⟩ : ∃ y_ : List (List Int), y_ = (y637 ++ t634) := ⟨_, rfl⟩
   replace H : (impl_net_fightFire.l0 k1 a2 t633 y640 t626 (t626.length : Int) (wrap64 (x43_1 + 1)) l0_0 a1_0 a1_1) = some (r1, r2) := by first | (rw [hy640];with_reducible exact H) | (have H2_ := (Option.bind_some _ _).symm.trans H;rw [hy640];with_reducible exact H2_) | (have H2_ := (Option.bind_some _ _).symm.trans H;with_reducible exact H2_) | with_reducible exact H | (rw [hy640];exact H) | exact H
   have Ny640 := Aside0.mk hy640
   clear hy640
   have H' := Aside0.mk H
   clear H
   have p629 : 0 ≤ (x43_1 : Int) := oA
   have q629 : x43_1 < (t626.length : Int) := oA
   obtain ⟨ad629, A629_0, c629_0, e629, hx629_0, hl629_0, hi629_0⟩ := at_L3 (Kd.N_reads' HO_41.out).2.2 x43_1 p629 q629
   cases e629
   obtain ⟨ce629, hce629, hMe629, hcc629⟩ := Kd.N_get HO_41.out [] x43_1 p629 (by first | exact q629 | exact oA | (have e_ := (Kd.N_reads' HO_41.out).1;omega))
   obtain ⟨ua629_0, uc629_0, rfl, ul629_0, ge629_0⟩ := Kd.FK_slice_open hMe629
   have hv629_0 := hcc629 0 _ rfl
   rw [Nat.add_zero, show ((Kd.slice 3 (Kd.int .i64))).sz = 1 from rfl, Nat.mul_one] at hv629_0
   replace hv629_0 := Option.some.inj (hv629_0.symm.trans hx629_0)
   injection hv629_0 with hva_ hvn_ hvc_
   rw [hva_] at ge629_0
   rw [hvc_] at ul629_0
   have HL629_0 := aM (show Kd.V (Kd.int .i64) 3 _ w.heap.size _ _ (rd_L3 t626 x43_1) from Kd.V_mk ul629_0 ge629_0)
   clear hva_ hvn_ hvc_ ge629_0 ul629_0
   clear hcc629 hce629
   have HR629_0 := Aside0.mk hi629_0
   have HC629_0 := Aside0.mk hl629_0
   clear hi629_0 hl629_0
   replace p629 := eq_true p629
   replace q629 := eq_true q629
   try go_wp2
   have n0_ := aM (Kd.N_drew HO_10.out)
   have n1_ := aM (Kd.N_drew HO_41.out)
   have n2_ := aM (Kd.V_drew HL629_0.out)
   have n3_ := aM (blk_drew BK617.out)
   have n4_ := aM (blk_drew BK618.out)
   have n5_ := aM (Kd.C_drew HR629_0.out)
   have n6_ := aM (below_drew1 HB.out)
   clear HO_10
   clear HO_41
   clear HL629_0
   clear BK617
   clear BK618
   clear HR629_0
   clear HB
   have HO_10 := n0_
   have HO_41 := n1_
   have HL629_0 := n2_
   have BK617 := n3_
   have BK618 := n4_
   have HR629_0 := n5_
   have HB := n6_
   clear n0_ n1_ n2_ n3_ n4_ n5_ n6_
   refine start_ (n := 10) (S := fun w' => w'.cell? ⟨gb618, 0, none⟩ = some (.int .i64 a1_0) ∧ w'.cell? ⟨gb618, 1, none⟩ = some (.int .i64 a1_1)) (ds := []) #[false,false,false,false,false,false,false,false,false,false] (by kernel_rfl) rfl rfl ⟨(blk_cell BK618.out 0).trans rfl, (blk_cell BK618.out 1).trans rfl⟩ (fun hHeld => ?_);refine with_tabW impl_net_fightFire.tab8 impl_net_fightFire.bits8 (fun HT_ HW_ => ?_)
   generalize wr.drew = w40 at HO_10 HO_41 HL629_0 BK617 BK618 HR629_0 HB hHeld ⊢
   refine pure_ (i := 0) (N := some 47) (v := ?_) (a' := ?_) #[true,false,false,false,false,false,false,false,false,false] rfl rfl (any_of HT_.out (by kernel_rfl)) (fun _ _ _ h => h) (Or.inl ⟨by rfl, ?_⟩) ?_ ?_
   rotate_left
   ·intro w'
    go_simp
    with_reducible rfl
   rotate_left
   ·exact aP
   refine pure_ (i := 2) (N := some 49) (v := ?_) (a' := ?_) #[true,false,true,false,false,false,false,false,false,false] rfl rfl (any_of HT_.out (by kernel_rfl)) (fun _ _ _ h => h) (Or.inl ⟨by rfl, ?_⟩) ?_ ?_
   rotate_left
   ·intro w'
    go_simp
    with_reducible rfl
   rotate_left
   ·exact aP
   refine pure_ (i := 4) (N := some 51) (v := ?_) (a' := ?_) #[true,false,true,false,true,false,false,false,false,false] rfl rfl (any_of HT_.out (by kernel_rfl)) (fun _ _ _ h => h) (Or.inl ⟨by rfl, ?_⟩) ?_ ?_
   rotate_left
   ·intro w'
    go_simp
    with_reducible rfl
   rotate_left
   ·exact aP
   refine take_ (i := 1) (N := some 48) (v := ?_) (a' := ?_) #[true,true,true,false,true,false,false,false,false,false] rfl rfl (take_ofW HT_.out HW_.out (by kernel_rfl)) (fun _ _ _ h => h) (Or.inl ⟨by rfl, ?_⟩) hHeld ?_ ?_
   rotate_left
   ·rintro w' ⟨s0, s1⟩
    go_simp
    with_reducible rfl
   rotate_left
   ·exact aP
   refine take_ (i := 3) (N := some 50) (v := ?_) (a' := ?_) #[true,true,true,true,true,false,false,false,false,false] rfl rfl (take_ofW HT_.out HW_.out (by kernel_rfl)) (fun _ _ _ h => h) (Or.inl ⟨by rfl, ?_⟩) hHeld ?_ ?_
   rotate_left
   ·rintro w' ⟨s0, s1⟩
    go_simp
    with_reducible rfl
   rotate_left
   ·exact aP
   refine join_ (σ := Nat) 1 #[true,true,true,true,true,true,true,true,true,false] (fun s_ => [(52, .int .i64 t630), (13, .pointer (some ⟨s_, 0, none⟩)), (53, .int .i64 (Go.bits .or .i64 a1_1 t630)), (54, .agg #[.int .i64 a1_0, .int .i64 (Go.bits .or .i64 a1_1 t630)])]) (fun s_ w' => (w'.cell? ⟨gb618, 0, none⟩ = some (.int .i64 a1_0) ∧ w'.cell? ⟨gb618, 1, none⟩ = some (.int .i64 a1_1)) ∧ (Kd.V (Kd.int .i64) 3 w' w.heap.size (fun k_ => (w.heap.size ≤ k_) ∧ some k_ ≠ (u10 : Value).ownBlock ∧ some k_ ≠ (.slice (some ad629) t626.length co31 : Value).ownBlock ∧ k_ ≠ gb617 ∧ k_ ≠ gb618 ∧ k_ ≠ s_) (.slice A629_0 (rd_L3 t626 x43_1).length c629_0) (rd_L3 t626 x43_1)) ∧ (Kd.N (Kd.slice 3 (Kd.int .i64)) 28 w' w.heap.size (fun k_ => (w.heap.size ≤ k_) ∧ some k_ ≠ (.slice (some ad629) t626.length co31 : Value).ownBlock ∧ k_ ≠ gb617 ∧ k_ ≠ gb618 ∧ k_ ≠ s_) u10 x10_1) ∧ (Kd.N (Kd.slice 3 (Kd.int .i64)) 28 w' w.heap.size (fun k_ => (w.heap.size ≤ k_) ∧ some k_ ≠ (u10 : Value).ownBlock ∧ k_ ≠ gb617 ∧ k_ ≠ gb618 ∧ k_ ≠ s_) (.slice (some ad629) t626.length co31) t626) ∧ (w'.heap[gb617]? = some (.cells #[.slice A0_0 l0_0.length c0_0] 80 (0, 0))) ∧ (w'.heap[gb618]? = some (.cells #[.int .i64 a1_0, .int .i64 a1_1] 75 (0, 0))) ∧ (w'.heap[s_]? = some (.cells #[.int .i64 0, .int .i64 0] 75 (0, 0))) ∧ (w.heap.size ≤ s_) ∧ (w.heap.size ≤ s_) ∧ (gb617 ≠ s_) ∧ (s_ ≠ gb617) ∧ (gb618 ≠ s_) ∧ (s_ ≠ gb618) ∧ (Below w.heap.size w w')) ?_ ?_
   rotate_left
   ·intro hCont
    refine two_ (i := 5) (j := 8) (Ni := some 52) (Nj := some 13) #[true,true,true,true,true,true,false,false,false,false] #[true,true,true,true,true,false,false,false,true,false] rfl rfl rfl rfl (two_of HT_.out (by kernel_rfl)) (by decide) (by decide) (fun K hK => ?_) (fun K hK => ?_)
    ·skip
     refine goes_ Try.func89 (by kernel_rfl) rfl #[.slice A629_0 (rd_L3 t626 x43_1).length c629_0] (by rfl) rfl rfl mM ?_
     with_reducible refine (impl_maskOf.calls k1 _ _ (rd_L3 t626 x43_1) t630 _ ?side1 ?side2 A35.out).mono ?_
     (case side1 => exact cP (by repeat (first | (with_reducible exact HR629_0.out) | (with_reducible refine Kd.C_alloc ?_ _) | (with_reducible refine Kd.C_drewN ?_ _) | (with_reducible refine Kd.C_drew ?_) | exact HR629_0.out)))
     (case side2 => exact HC629_0.out)
     rintro e w' ⟨rfl, ⟨nd, rfl⟩⟩
     refine ⟨_, rfl, ?_⟩
     refine hK.out _ _ ⟨(blk_cell BK618.out 0).trans rfl, (blk_cell BK618.out 1).trans rfl⟩ (fun hHeld => ?_)
     clear hK K
     refine norm_ (a' := ?_) ?_ ?_
     rotate_left
     ·show Act.put _ (some 52) _ = _
      simp only [Act.put, List.setIfInBounds_toArray, List.set_cons_zero, List.set_cons_succ, i64_w, i32_w]
      rfl
     refine pure_ (i := 6) (N := some 53) (v := ?_) (a' := ?_) #[true,true,true,true,true,true,true,false,false,false] rfl rfl (any_of HT_.out (by kernel_rfl)) (fun _ _ _ h => h) (Or.inl ⟨by rfl, ?_⟩) ?_ ?_
     rotate_left
     ·intro w'
      go_simp
      with_reducible rfl
     rotate_left
     ·exact aP
     refine pure_ (i := 7) (N := some 54) (v := ?_) (a' := ?_) #[true,true,true,true,true,true,true,true,false,false] rfl rfl (any_of HT_.out (by kernel_rfl)) (fun _ _ _ h => h) (Or.inl ⟨by rfl, ?_⟩) ?_ ?_
     rotate_left
     ·intro w'
      go_simp
      with_reducible rfl
     rotate_left
     ·exact aP
     refine one_ (i := 8) (N := some 13) #[true,true,true,true,true,true,true,true,true,false] rfl rfl (one_of HT_.out (by kernel_rfl)) (by decide) (fun K hK => ?_)
     refine box_step ?hg (N := 13) ?hd (cs := #[.int .i64 0, .int .i64 0]) (t := 75) ?hr ?_;(case hd => rfl);(case hg => rfl);(case hr => first | (go_simp;done) | (go_simp;rfl))
     intro gb631 hg w41 hbox hb
     have n0_ := aM (Kd.N_below (Kd.N_elderB (by (with_reducible repeat (first | apply Kd.N_alloc | apply Kd.N_drewN | apply Kd.N_drew));exact HO_10.out) gb631 (Nat.le_of_eq hg.symm)) hb)
     have n1_ := aM (Kd.N_below (Kd.N_elderB (by (with_reducible repeat (first | apply Kd.N_alloc | apply Kd.N_drewN | apply Kd.N_drew));exact HO_41.out) gb631 (Nat.le_of_eq hg.symm)) hb)
     have n2_ := aM (Kd.V_below (Kd.V_elderB (by (with_reducible repeat (first | apply Kd.V_alloc | apply Kd.V_drewN | apply Kd.V_drew));exact HL629_0.out) gb631 (Nat.le_of_eq hg.symm)) hb)
     have n3_ := aM (blk_below (g := gb617) (o := .cells #[.slice A0_0 l0_0.length c0_0] 80 (0, 0)) (by exact kP BK617.out) hb)
     have n4_ := aM (blk_below (g := gb618) (o := .cells #[.int .i64 a1_0, .int .i64 a1_1] 75 (0, 0)) (by exact kP BK618.out) hb)
     have n5_ := aM (Kd.C_below (by repeat (first | (with_reducible exact HR629_0.out) | (with_reducible refine Kd.C_alloc ?_ _) | (with_reducible refine Kd.C_drewN ?_ _) | (with_reducible refine Kd.C_drew ?_) | exact HR629_0.out)) hb)
     have n6_ := aM (below_step (by exact bB) hb)
     have n7_ := aM (hbox)
     have n8_ := aM ((by rw [hg];exact (below_size (by exact bB)) : w.heap.size ≤ gb631))
     have n9_ := aM ((by rw [hg];exact (below_size (by exact bB)) : w.heap.size ≤ gb631))
     have n10_ := aM ((by rw [hg];exact Nat.ne_of_lt (blk_lt (g := gb617) (o := .cells #[.slice A0_0 l0_0.length c0_0] 80 (0, 0)) (by exact kP BK617.out)) : gb617 ≠ gb631))
     have n11_ := aM ((by rw [hg];exact Nat.ne_of_gt (blk_lt (g := gb617) (o := .cells #[.slice A0_0 l0_0.length c0_0] 80 (0, 0)) (by exact kP BK617.out)) : gb631 ≠ gb617))
     have n12_ := aM ((by rw [hg];exact Nat.ne_of_lt (blk_lt (g := gb618) (o := .cells #[.int .i64 a1_0, .int .i64 a1_1] 75 (0, 0)) (by exact kP BK618.out)) : gb618 ≠ gb631))
     have n13_ := aM ((by rw [hg];exact Nat.ne_of_gt (blk_lt (g := gb618) (o := .cells #[.int .i64 a1_0, .int .i64 a1_1] 75 (0, 0)) (by exact kP BK618.out)) : gb631 ≠ gb618))
     clear HO_10
     clear HO_41
     clear HL629_0
     clear BK617
     clear BK618
     clear HR629_0
     clear HB
     have HO_10 := n0_
     have HO_41 := n1_
     have HL629_0 := n2_
     have BK617 := n3_
     have BK618 := n4_
     have HR629_0 := n5_
     have HB := n6_
     have BK631 := n7_
     have GW631 := n8_
     have GE631 := n9_
     have NB617_631 := n10_
     have NB631_617 := n11_
     have NB618_631 := n12_
     have NB631_618 := n13_
     clear n0_ n1_ n2_ n3_ n4_ n5_ n6_ n7_ n8_ n9_ n10_ n11_ n12_ n13_
     clear hb hbox hg
     refine hK.out _ _ ⟨(blk_cell BK618.out 0).trans rfl, (blk_cell BK618.out 1).trans rfl⟩ (fun hHeld => ?_)
     clear hK K
     refine norm_ (a' := ?_) ?_ ?_
     rotate_left
     ·show Act.put _ (some 13) _ = _
      simp only [Act.put, List.setIfInBounds_toArray, List.set_cons_zero, List.set_cons_succ, i64_w, i32_w]
      rfl
     exact norm_ (by simp only [putAll, Act.put, List.setIfInBounds_toArray, List.set_cons_zero, List.set_cons_succ]) (hCont (gb631) _ ⟨hHeld, (by (with_reducible repeat (first | apply Kd.V_alloc | apply Kd.V_drewN | apply Kd.V_drew));exact Kd.V_mono HL629_0.out (fun _ hk => ⟨hk.1.1.1, ⟨hk.1.1.2.1, ⟨hk.1.2, ⟨hk.1.1.2.2.1, ⟨hk.1.1.2.2.2, hk.2⟩⟩⟩⟩⟩)), (by (with_reducible repeat (first | apply Kd.N_alloc | apply Kd.N_drewN | apply Kd.N_drew));exact Kd.N_mono HO_10.out (fun _ hk => ⟨hk.1.1, ⟨hk.1.2.1, ⟨hk.1.2.2.1, ⟨hk.1.2.2.2, hk.2⟩⟩⟩⟩)), (by (with_reducible repeat (first | apply Kd.N_alloc | apply Kd.N_drewN | apply Kd.N_drew));exact Kd.N_mono HO_41.out (fun _ hk => ⟨hk.1.1, ⟨hk.1.2.1, ⟨hk.1.2.2.1, ⟨hk.1.2.2.2, hk.2⟩⟩⟩⟩)), (by exact kP BK617.out), (by exact kP BK618.out), (by exact kP BK631.out), GW631.out, GE631.out, NB617_631.out, NB631_617.out, NB618_631.out, NB631_618.out, (by exact bB)⟩)
    ·skip
     refine box_step ?hg (N := 13) ?hd (cs := #[.int .i64 0, .int .i64 0]) (t := 75) ?hr ?_;(case hd => rfl);(case hg => rfl);(case hr => first | (go_simp;done) | (go_simp;rfl))
     intro gb631 hg w41 hbox hb
     have n0_ := aM (Kd.N_below (Kd.N_elderB (by (with_reducible repeat (first | apply Kd.N_alloc | apply Kd.N_drewN | apply Kd.N_drew));exact HO_10.out) gb631 (Nat.le_of_eq hg.symm)) hb)
     have n1_ := aM (Kd.N_below (Kd.N_elderB (by (with_reducible repeat (first | apply Kd.N_alloc | apply Kd.N_drewN | apply Kd.N_drew));exact HO_41.out) gb631 (Nat.le_of_eq hg.symm)) hb)
     have n2_ := aM (Kd.V_below (Kd.V_elderB (by (with_reducible repeat (first | apply Kd.V_alloc | apply Kd.V_drewN | apply Kd.V_drew));exact HL629_0.out) gb631 (Nat.le_of_eq hg.symm)) hb)
     have n3_ := aM (blk_below (g := gb617) (o := .cells #[.slice A0_0 l0_0.length c0_0] 80 (0, 0)) (by exact kP BK617.out) hb)
     have n4_ := aM (blk_below (g := gb618) (o := .cells #[.int .i64 a1_0, .int .i64 a1_1] 75 (0, 0)) (by exact kP BK618.out) hb)
     have n5_ := aM (Kd.C_below (by repeat (first | (with_reducible exact HR629_0.out) | (with_reducible refine Kd.C_alloc ?_ _) | (with_reducible refine Kd.C_drewN ?_ _) | (with_reducible refine Kd.C_drew ?_) | exact HR629_0.out)) hb)
     have n6_ := aM (below_step (by exact bB) hb)
     have n7_ := aM (hbox)
     have n8_ := aM ((by rw [hg];exact (below_size (by exact bB)) : w.heap.size ≤ gb631))
     have n9_ := aM ((by rw [hg];exact (below_size (by exact bB)) : w.heap.size ≤ gb631))
     have n10_ := aM ((by rw [hg];exact Nat.ne_of_lt (blk_lt (g := gb617) (o := .cells #[.slice A0_0 l0_0.length c0_0] 80 (0, 0)) (by exact kP BK617.out)) : gb617 ≠ gb631))
     have n11_ := aM ((by rw [hg];exact Nat.ne_of_gt (blk_lt (g := gb617) (o := .cells #[.slice A0_0 l0_0.length c0_0] 80 (0, 0)) (by exact kP BK617.out)) : gb631 ≠ gb617))
     have n12_ := aM ((by rw [hg];exact Nat.ne_of_lt (blk_lt (g := gb618) (o := .cells #[.int .i64 a1_0, .int .i64 a1_1] 75 (0, 0)) (by exact kP BK618.out)) : gb618 ≠ gb631))
     have n13_ := aM ((by rw [hg];exact Nat.ne_of_gt (blk_lt (g := gb618) (o := .cells #[.int .i64 a1_0, .int .i64 a1_1] 75 (0, 0)) (by exact kP BK618.out)) : gb631 ≠ gb618))
     clear HO_10
     clear HO_41
     clear HL629_0
     clear BK617
     clear BK618
     clear HR629_0
     clear HB
     have HO_10 := n0_
     have HO_41 := n1_
     have HL629_0 := n2_
     have BK617 := n3_
     have BK618 := n4_
     have HR629_0 := n5_
     have HB := n6_
     have BK631 := n7_
     have GW631 := n8_
     have GE631 := n9_
     have NB617_631 := n10_
     have NB631_617 := n11_
     have NB618_631 := n12_
     have NB631_618 := n13_
     clear n0_ n1_ n2_ n3_ n4_ n5_ n6_ n7_ n8_ n9_ n10_ n11_ n12_ n13_
     clear hb hbox hg
     refine hK.out _ _ ⟨(blk_cell BK618.out 0).trans rfl, (blk_cell BK618.out 1).trans rfl⟩ (fun hHeld => ?_)
     clear hK K
     refine norm_ (a' := ?_) ?_ ?_
     rotate_left
     ·show Act.put _ (some 13) _ = _
      simp only [Act.put, List.setIfInBounds_toArray, List.set_cons_zero, List.set_cons_succ, i64_w, i32_w]
      rfl
     refine one_ (i := 5) (N := some 52) #[true,true,true,true,true,true,false,false,true,false] rfl rfl (one_of HT_.out (by kernel_rfl)) (by decide) (fun K hK => ?_)
     refine goes_ Try.func89 (by kernel_rfl) rfl #[.slice A629_0 (rd_L3 t626 x43_1).length c629_0] (by rfl) rfl rfl mM ?_
     with_reducible refine (impl_maskOf.calls k1 _ _ (rd_L3 t626 x43_1) t630 _ ?side1 ?side2 A35.out).mono ?_
     (case side1 => exact cP (by repeat (first | (with_reducible exact HR629_0.out) | (with_reducible refine Kd.C_alloc ?_ _) | (with_reducible refine Kd.C_drewN ?_ _) | (with_reducible refine Kd.C_drew ?_) | exact HR629_0.out)))
     (case side2 => exact HC629_0.out)
     rintro e w' ⟨rfl, ⟨nd, rfl⟩⟩
     refine ⟨_, rfl, ?_⟩
     refine hK.out _ _ ⟨(blk_cell BK618.out 0).trans rfl, (blk_cell BK618.out 1).trans rfl⟩ (fun hHeld => ?_)
     clear hK K
     refine norm_ (a' := ?_) ?_ ?_
     rotate_left
     ·show Act.put _ (some 52) _ = _
      simp only [Act.put, List.setIfInBounds_toArray, List.set_cons_zero, List.set_cons_succ, i64_w, i32_w]
      rfl
     refine pure_ (i := 6) (N := some 53) (v := ?_) (a' := ?_) #[true,true,true,true,true,true,true,false,true,false] rfl rfl (any_of HT_.out (by kernel_rfl)) (fun _ _ _ h => h) (Or.inl ⟨by rfl, ?_⟩) ?_ ?_
     rotate_left
     ·intro w'
      go_simp
      with_reducible rfl
     rotate_left
     ·exact aP
     refine pure_ (i := 7) (N := some 54) (v := ?_) (a' := ?_) #[true,true,true,true,true,true,true,true,true,false] rfl rfl (any_of HT_.out (by kernel_rfl)) (fun _ _ _ h => h) (Or.inl ⟨by rfl, ?_⟩) ?_ ?_
     rotate_left
     ·intro w'
      go_simp
      with_reducible rfl
     rotate_left
     ·exact aP
     exact norm_ (by simp only [putAll, Act.put, List.setIfInBounds_toArray, List.set_cons_zero, List.set_cons_succ]) (hCont (gb631) _ ⟨hHeld, (by (with_reducible repeat (first | apply Kd.V_alloc | apply Kd.V_drewN | apply Kd.V_drew));exact Kd.V_mono HL629_0.out (fun _ hk => ⟨hk.1.1.1, ⟨hk.1.1.2.1, ⟨hk.1.2, ⟨hk.1.1.2.2.1, ⟨hk.1.1.2.2.2, hk.2⟩⟩⟩⟩⟩)), (by (with_reducible repeat (first | apply Kd.N_alloc | apply Kd.N_drewN | apply Kd.N_drew));exact Kd.N_mono HO_10.out (fun _ hk => ⟨hk.1.1, ⟨hk.1.2.1, ⟨hk.1.2.2.1, ⟨hk.1.2.2.2, hk.2⟩⟩⟩⟩)), (by (with_reducible repeat (first | apply Kd.N_alloc | apply Kd.N_drewN | apply Kd.N_drew));exact Kd.N_mono HO_41.out (fun _ hk => ⟨hk.1.1, ⟨hk.1.2.1, ⟨hk.1.2.2.1, ⟨hk.1.2.2.2, hk.2⟩⟩⟩⟩)), (by exact kP BK617.out), (by exact kP BK618.out), (by exact kP BK631.out), GW631.out, GE631.out, NB617_631.out, NB631_617.out, NB618_631.out, NB631_618.out, (by exact bB)⟩)
   rintro gb631 w42 ⟨hS_, h0_, h1_, h2_, h3_, h4_, h5_, h6_, h7_, h8_, h9_, h10_, h11_, h12_⟩
   have n0_ : Aside0 (Kd.V (Kd.int .i64) 3 w42 w.heap.size (fun k_ => (w.heap.size ≤ k_) ∧ some k_ ≠ (u10 : Value).ownBlock ∧ some k_ ≠ (.slice (some ad629) t626.length co31 : Value).ownBlock ∧ k_ ≠ gb617 ∧ k_ ≠ gb618 ∧ k_ ≠ gb631) (.slice A629_0 (rd_L3 t626 x43_1).length c629_0) (rd_L3 t626 x43_1)) := ⟨h0_⟩
   have n1_ : Aside0 (Kd.N (Kd.slice 3 (Kd.int .i64)) 28 w42 w.heap.size (fun k_ => (w.heap.size ≤ k_) ∧ some k_ ≠ (.slice (some ad629) t626.length co31 : Value).ownBlock ∧ k_ ≠ gb617 ∧ k_ ≠ gb618 ∧ k_ ≠ gb631) u10 x10_1) := ⟨h1_⟩
   have n2_ : Aside0 (Kd.N (Kd.slice 3 (Kd.int .i64)) 28 w42 w.heap.size (fun k_ => (w.heap.size ≤ k_) ∧ some k_ ≠ (u10 : Value).ownBlock ∧ k_ ≠ gb617 ∧ k_ ≠ gb618 ∧ k_ ≠ gb631) (.slice (some ad629) t626.length co31) t626) := ⟨h2_⟩
   have n3_ : Aside0 (w42.heap[gb617]? = some (.cells #[.slice A0_0 l0_0.length c0_0] 80 (0, 0))) := ⟨h3_⟩
   have n4_ : Aside0 (w42.heap[gb618]? = some (.cells #[.int .i64 a1_0, .int .i64 a1_1] 75 (0, 0))) := ⟨h4_⟩
   have n5_ : Aside0 (w42.heap[gb631]? = some (.cells #[.int .i64 0, .int .i64 0] 75 (0, 0))) := ⟨h5_⟩
   have n6_ : Aside0 (w.heap.size ≤ gb631) := ⟨h6_⟩
   have n7_ : Aside0 (w.heap.size ≤ gb631) := ⟨h7_⟩
   have n8_ : Aside0 (gb617 ≠ gb631) := ⟨h8_⟩
   have n9_ : Aside0 (gb631 ≠ gb617) := ⟨h9_⟩
   have n10_ : Aside0 (gb618 ≠ gb631) := ⟨h10_⟩
   have n11_ : Aside0 (gb631 ≠ gb618) := ⟨h11_⟩
   have n12_ : Aside0 (Below w.heap.size w w42) := ⟨h12_⟩
   clear HO_10
   clear HO_41
   clear HL629_0
   clear BK617
   clear BK618
   clear HR629_0
   clear HB
   clear h0_ h1_ h2_ h3_ h4_ h5_ h6_ h7_ h8_ h9_ h10_ h11_ h12_
   have HL629_0 := n0_
   have HO_10 := n1_
   have HO_41 := n2_
   have BK617 := n3_
   have BK618 := n4_
   have BK631 := n5_
   have GW631 := n6_
   have GE631 := n7_
   have NB617_631 := n8_
   have NB631_617 := n9_
   have NB618_631 := n10_
   have NB631_618 := n11_
   have HB := n12_
   clear n0_ n1_ n2_ n3_ n4_ n5_ n6_ n7_ n8_ n9_ n10_ n11_ n12_
   have hHeld : w42.cell? ⟨gb618, 0, none⟩ = some (.int .i64 a1_0) ∧ w42.cell? ⟨gb618, 1, none⟩ = some (.int .i64 a1_1) := hS_
   refine norm_ (a' := ?_) ?_ ?_
   rotate_left
   ·simp only [putAll, Act.put, List.setIfInBounds_toArray, List.set_cons_zero, List.set_cons_succ]
    rfl
   refine one_ (i := 9) (N := none) #[true,true,true,true,true,true,true,true,true,true] rfl rfl (one_of HT_.out (by kernel_rfl)) (by decide) (fun K hK => ?_)
   have hs43 : w42.cell? ⟨gb631, 0, none⟩ = some (.int .i64 0) := (blk_cell BK631.out 0).trans rfl
   have hfs43 := blk_frozen BK631.out 0
   have hns43_0 := NB617_631.out
   have hns43_1 := NB618_631.out
   have hms43_0 := NB631_617.out
   have hms43_1 := NB631_618.out
   have hs44 : w42.cell? ⟨gb631, 1, none⟩ = some (.int .i64 0) := (blk_cell BK631.out 1).trans rfl
   have hfs44 := blk_frozen BK631.out 1
   have hns44_0 := NB617_631.out
   have hns44_1 := NB618_631.out
   have hms44_0 := NB631_617.out
   have hms44_1 := NB631_618.out
   refine skip_ (w1 := ?_) (by rfl) rfl ?_ ?_
   rotate_left
   ·go_simp
    rfl
   refine hK.out _ _ ⟨((cell_far (p := ⟨gb631, _, none⟩) NB618_631.out _).trans (((cell_far (p := ⟨gb631, _, none⟩) NB618_631.out _).trans (hHeld.1)))), ((cell_far (p := ⟨gb631, _, none⟩) NB618_631.out _).trans (((cell_far (p := ⟨gb631, _, none⟩) NB618_631.out _).trans (hHeld.2))))⟩ (fun hHeld => ?_)
   clear hK K
   refine done_ (done_of HT_.out (by kernel_rfl)) ?_
   try go_wp2
   have n0_ : Aside0 (Kd.N (Kd.slice 3 (Kd.int .i64)) 28 ((w42.setCell ⟨gb631, 0, none⟩ (.int .i64 a1_0)).setCell ⟨gb631, 1, none⟩ (.int .i64 (Go.bits .or .i64 a1_1 t630))) w.heap.size (fun k_ => (w.heap.size ≤ k_) ∧ some k_ ≠ (.slice (some ad629) t626.length co31 : Value).ownBlock ∧ k_ ≠ gb617 ∧ k_ ≠ gb618 ∧ k_ ≠ gb631) u10 x10_1) := ⟨by (with_reducible repeat (first | apply Kd.N_alloc | apply Kd.N_drewN | apply Kd.N_drew));exact Kd.N_mono (Kd.N_far (p := ⟨gb631, 1, none⟩) (Kd.N_far (p := ⟨gb631, 0, none⟩) (Kd.N_mono HO_10.out (fun k_ hk => (⟨hk, hk.2.2.2.2⟩ : _ ∧ k_ ≠ gb631))) (fun _ hk => hk.2) (.int .i64 a1_0)) (fun _ hk => hk.2) (.int .i64 (Go.bits .or .i64 a1_1 t630))) (fun _ hk => ⟨hk.1.1, ⟨hk.1.2.1, ⟨hk.1.2.2.1, ⟨hk.1.2.2.2.1, hk.1.2.2.2.2⟩⟩⟩⟩)⟩
   have n1_ : Aside0 (Kd.N (Kd.slice 3 (Kd.int .i64)) 28 ((w42.setCell ⟨gb631, 0, none⟩ (.int .i64 a1_0)).setCell ⟨gb631, 1, none⟩ (.int .i64 (Go.bits .or .i64 a1_1 t630))) w.heap.size (fun k_ => (w.heap.size ≤ k_) ∧ some k_ ≠ (u10 : Value).ownBlock ∧ k_ ≠ gb617 ∧ k_ ≠ gb618 ∧ k_ ≠ gb631) (.slice (some ad629) t626.length co31) t626) := ⟨by (with_reducible repeat (first | apply Kd.N_alloc | apply Kd.N_drewN | apply Kd.N_drew));exact Kd.N_mono (Kd.N_far (p := ⟨gb631, 1, none⟩) (Kd.N_far (p := ⟨gb631, 0, none⟩) (Kd.N_mono HO_41.out (fun k_ hk => (⟨hk, hk.2.2.2.2⟩ : _ ∧ k_ ≠ gb631))) (fun _ hk => hk.2) (.int .i64 a1_0)) (fun _ hk => hk.2) (.int .i64 (Go.bits .or .i64 a1_1 t630))) (fun _ hk => ⟨hk.1.1, ⟨hk.1.2.1, ⟨hk.1.2.2.1, ⟨hk.1.2.2.2.1, hk.1.2.2.2.2⟩⟩⟩⟩)⟩
   have n2_ : Aside0 (Kd.V (Kd.int .i64) 3 ((w42.setCell ⟨gb631, 0, none⟩ (.int .i64 a1_0)).setCell ⟨gb631, 1, none⟩ (.int .i64 (Go.bits .or .i64 a1_1 t630))) w.heap.size (fun k_ => (w.heap.size ≤ k_) ∧ some k_ ≠ (u10 : Value).ownBlock ∧ some k_ ≠ (.slice (some ad629) t626.length co31 : Value).ownBlock ∧ k_ ≠ gb617 ∧ k_ ≠ gb618 ∧ k_ ≠ gb631) (.slice A629_0 (rd_L3 t626 x43_1).length c629_0) (rd_L3 t626 x43_1)) := ⟨by (with_reducible repeat (first | apply Kd.V_alloc | apply Kd.V_drewN | apply Kd.V_drew));exact Kd.V_mono (Kd.V_far (p := ⟨gb631, 1, none⟩) (Kd.V_far (p := ⟨gb631, 0, none⟩) (Kd.V_mono HL629_0.out (fun k_ hk => (⟨hk, hk.2.2.2.2.2⟩ : _ ∧ k_ ≠ gb631))) (fun _ hk => hk.2) (.int .i64 a1_0)) (fun _ hk => hk.2) (.int .i64 (Go.bits .or .i64 a1_1 t630))) (fun _ hk => ⟨hk.1.1, ⟨hk.1.2.1, ⟨hk.1.2.2.1, ⟨hk.1.2.2.2.1, ⟨hk.1.2.2.2.2.1, hk.1.2.2.2.2.2⟩⟩⟩⟩⟩)⟩
   have n3_ : Aside0 (((w42.setCell ⟨gb631, 0, none⟩ (.int .i64 a1_0)).setCell ⟨gb631, 1, none⟩ (.int .i64 (Go.bits .or .i64 a1_1 t630))).heap[gb617]? = some (.cells #[.slice A0_0 l0_0.length c0_0] 80 (0, 0))) := ⟨by refine kP ?_;refine blk_far ?_ NB617_631.out _;refine kP ?_;refine blk_far ?_ NB617_631.out _;exact kP BK617.out⟩
   have n4_ : Aside0 (((w42.setCell ⟨gb631, 0, none⟩ (.int .i64 a1_0)).setCell ⟨gb631, 1, none⟩ (.int .i64 (Go.bits .or .i64 a1_1 t630))).heap[gb618]? = some (.cells #[.int .i64 a1_0, .int .i64 a1_1] 75 (0, 0))) := ⟨by refine kP ?_;refine blk_far ?_ NB618_631.out _;refine kP ?_;refine blk_far ?_ NB618_631.out _;exact kP BK618.out⟩
   have n5_ : Aside0 (((w42.setCell ⟨gb631, 0, none⟩ (.int .i64 a1_0)).setCell ⟨gb631, 1, none⟩ (.int .i64 (Go.bits .or .i64 a1_1 t630))).heap[gb631]? = some (.cells #[.int .i64 a1_0, .int .i64 (Go.bits .or .i64 a1_1 t630)] 75 (0, 0))) := ⟨by refine kP ?_;refine blk_put (cs := #[.int .i64 a1_0, .int .i64 0]) ?_ 1 _ rfl;refine kP ?_;refine blk_put (cs := #[.int .i64 0, .int .i64 0]) ?_ 0 _ rfl;exact kP BK631.out⟩
   have n6_ : Aside0 (Below w.heap.size w ((w42.setCell ⟨gb631, 0, none⟩ (.int .i64 a1_0)).setCell ⟨gb631, 1, none⟩ (.int .i64 (Go.bits .or .i64 a1_1 t630)))) := ⟨by exact bB⟩
   (try clear HO_10)
   (try clear HO_41)
   (try clear HL629_0)
   (try clear BK617)
   (try clear BK618)
   (try clear BK631)
   (try clear HB)
   generalize ((w42.setCell ⟨gb631, 0, none⟩ (.int .i64 a1_0)).setCell ⟨gb631, 1, none⟩ (.int .i64 (Go.bits .or .i64 a1_1 t630))) = w45 at n0_ n1_ n2_ n3_ n4_ n5_ n6_ ⊢
   have HO_10 := n0_
   have HO_41 := n1_
   have HL629_0 := n2_
   have BK617 := n3_
   have BK618 := n4_
   have BK631 := n5_
   have HB := n6_
   clear n0_ n1_ n2_ n3_ n4_ n5_ n6_
   have n0_ := aM (Kd.N_drew HO_10.out)
   have n1_ := aM (Kd.N_drew HO_41.out)
   have n2_ := aM (Kd.V_drew HL629_0.out)
   have n3_ := aM (blk_drew BK617.out)
   have n4_ := aM (blk_drew BK618.out)
   have n5_ := aM (blk_drew BK631.out)
   have n6_ := aM (below_drew1 HB.out)
   clear HO_10
   clear HO_41
   clear HL629_0
   clear BK617
   clear BK618
   clear BK631
   clear HB
   have HO_10 := n0_
   have HO_41 := n1_
   have HL629_0 := n2_
   have BK617 := n3_
   have BK618 := n4_
   have BK631 := n5_
   have HB := n6_
   clear n0_ n1_ n2_ n3_ n4_ n5_ n6_
   refine start_ (n := 8) (S := fun w' => w'.cell? ⟨gb631, 0, none⟩ = some (.int .i64 a1_0) ∧ w'.cell? ⟨gb631, 1, none⟩ = some (.int .i64 (Go.bits .or .i64 a1_1 t630)) ∧ w'.cell? ⟨gb617, 0, none⟩ = some (.slice A0_0 l0_0.length c0_0)) (ds := [7]) #[false,false,false,false,false,false,false,false] (by kernel_rfl) rfl rfl ⟨(blk_cell BK631.out 0).trans rfl, (blk_cell BK631.out 1).trans rfl, (blk_cell BK617.out 0).trans rfl⟩ (fun hHeld => ?_);refine with_tabW impl_net_fightFire.tab9 impl_net_fightFire.bits9 (fun HT_ HW_ => ?_)
   generalize w45.drew = w46 at HO_10 HO_41 HL629_0 BK617 BK618 BK631 HB hHeld ⊢
   refine pure_ (i := 0) (N := some 55) (v := ?_) (a' := ?_) #[true,false,false,false,false,false,false,false] rfl rfl (any_of HT_.out (by kernel_rfl)) (fun _ _ _ h => h) (Or.inl ⟨by rfl, ?_⟩) ?_ ?_
   rotate_left
   ·intro w'
    go_simp
    with_reducible rfl
   rotate_left
   ·exact aP
   refine take_ (i := 1) (N := some 56) (v := ?_) (a' := ?_) #[true,true,false,false,false,false,false,false] rfl rfl (take_ofW HT_.out HW_.out (by kernel_rfl)) (fun _ _ _ h => h) (Or.inl ⟨by rfl, ?_⟩) hHeld ?_ ?_
   rotate_left
   ·rintro w' ⟨s0, s1, s2⟩
    go_simp
    with_reducible rfl
   rotate_left
   ·exact aP
   refine take_ (i := 2) (N := some 57) (v := ?_) (a' := ?_) #[true,true,true,false,false,false,false,false] rfl rfl (take_ofW HT_.out HW_.out (by kernel_rfl)) (fun _ _ _ h => h) (Or.inl ⟨by rfl, ?_⟩) hHeld ?_ ?_
   rotate_left
   ·rintro w' ⟨s0, s1, s2⟩
    go_simp
    with_reducible rfl
   rotate_left
   ·exact aP
   refine take_ (i := 3) (N := some 58) (v := ?_) (a' := ?_) #[true,true,true,true,false,false,false,false] rfl rfl (take_ofW HT_.out HW_.out (by kernel_rfl)) (fun _ _ _ h => h) (Or.inl ⟨by rfl, ?_⟩) hHeld ?_ ?_
   rotate_left
   ·rintro w' ⟨s0, s1, s2⟩
    go_simp
    with_reducible rfl
   rotate_left
   ·exact aP
   refine one_ (i := 4) (N := some 59) #[true,true,true,true,true,false,false,false] rfl rfl (one_of HT_.out (by kernel_rfl)) (by decide) (fun K hK => ?_)
   refine goes_ Try.func122 (by kernel_rfl) rfl #[.agg #[.slice A0_0 l0_0.length c0_0], .agg #[.int .i64 a1_0, .int .i64 (Go.bits .or .i64 a1_1 t630)]] (by rfl) rfl rfl mM ?_
   with_reducible refine (impl_net_threatened.calls k1 _ _ l0_0 a1_0 (Go.bits .or .i64 a1_1 t630) t632 _ ?side1 ?side2 A36.out).mono ?_
   (case side1 => exact cP (Kd.C_below HR0_0.out HB.out))
   (case side2 => exact HC0_0.out)
   rintro e w47 ⟨rfl, hb⟩
   refine ⟨_, rfl, ?_⟩
   have n0_ := aM (Kd.N_below (by (with_reducible repeat (first | apply Kd.N_alloc | apply Kd.N_drewN | apply Kd.N_drew));exact HO_10.out) hb)
   have n1_ := aM (Kd.N_below (by (with_reducible repeat (first | apply Kd.N_alloc | apply Kd.N_drewN | apply Kd.N_drew));exact HO_41.out) hb)
   have n2_ := aM (Kd.V_below (by (with_reducible repeat (first | apply Kd.V_alloc | apply Kd.V_drewN | apply Kd.V_drew));exact HL629_0.out) hb)
   have n3_ := aM (blk_below (g := gb617) (o := .cells #[.slice A0_0 l0_0.length c0_0] 80 (0, 0)) (by exact kP BK617.out) hb)
   have n4_ := aM (blk_below (g := gb618) (o := .cells #[.int .i64 a1_0, .int .i64 a1_1] 75 (0, 0)) (by exact kP BK618.out) hb)
   have n5_ := aM (blk_below (g := gb631) (o := .cells #[.int .i64 a1_0, .int .i64 (Go.bits .or .i64 a1_1 t630)] 75 (0, 0)) (by exact kP BK631.out) hb)
   have n6_ := aM (below_step (by exact bB) hb)
   clear HO_10
   clear HO_41
   clear HL629_0
   clear BK617
   clear BK618
   clear BK631
   clear HB
   have HO_10 := n0_
   have HO_41 := n1_
   have HL629_0 := n2_
   have BK617 := n3_
   have BK618 := n4_
   have BK631 := n5_
   have HB := n6_
   clear n0_ n1_ n2_ n3_ n4_ n5_ n6_
   (try clear hb)
   (try clear hb2)
   (try clear hk)
   (try clear hi)
   refine hK.out _ _ ⟨(blk_cell BK631.out 0).trans rfl, (blk_cell BK631.out 1).trans rfl, (blk_cell BK617.out 0).trans rfl⟩ (fun hHeld => ?_)
   clear hK K
   refine norm_ (a' := ?_) ?_ ?_
   rotate_left
   ·show Act.put _ (some 59) _ = _
    simp only [Act.put, List.setIfInBounds_toArray, List.set_cons_zero, List.set_cons_succ, i64_w, i32_w]
    rfl
   refine pure_ (i := 5) (N := some 60) (v := ?_) (a' := ?_) #[true,true,true,true,true,true,false,false] rfl rfl (any_of HT_.out (by kernel_rfl)) (fun _ _ _ h => h) (Or.inl ⟨by rfl, ?_⟩) ?_ ?_
   rotate_left
   ·intro w'
    go_simp
    with_reducible rfl
   rotate_left
   ·exact aP
   refine pure_ (i := 6) (N := some 61) (v := ?_) (a' := ?_) #[true,true,true,true,true,true,true,false] rfl rfl (any_of HT_.out (by kernel_rfl)) (fun _ _ _ h => h) (Or.inl ⟨by rfl, ?_⟩) ?_ ?_
   rotate_left
   ·intro w'
    go_simp
    with_reducible rfl
   rotate_left
   ·exact aP
   refine last_ (i := 7) (N := none) #[true,true,true,true,true,true,true,true] rfl rfl (one_of HT_.out (by kernel_rfl)) (by decide) (fun K hK => ?_)
   have hs48 : w47.cell? ⟨gb631, 0, none⟩ = some (.int .i64 a1_0) := (blk_cell BK631.out 0).trans rfl
   have hfs48 := blk_frozen BK631.out 0
   have hns48_0 := NB617_631.out
   have hns48_1 := NB618_631.out
   have hms48_0 := NB631_617.out
   have hms48_1 := NB631_618.out
   refine skip_ (w1 := ?_) (by rfl) rfl ?_ ?_
   rotate_left
   ·go_simp
    rfl
   refine hK.out _ _ ?_
   clear hK K
   refine done_ (done_of HT_.out (by kernel_rfl)) ?_
   have hnb49 := NB617_618.out
   have hnc49 := NB618_617.out
   have hnb50 := NB617_631.out
   have hnc50 := NB631_617.out
   have hcz51_0 : w47.cell? ⟨gb617, 0, none⟩ = some (.slice A0_0 l0_0.length c0_0) := (blk_cell BK617.out 0).trans rfl
   have hfz51_0 := blk_frozen BK617.out 0
   have hnb52 := NB631_618.out
   have hnc52 := NB618_631.out
   have hcz53_0 : w47.cell? ⟨gb631, 0, none⟩ = some (.int .i64 a1_0) := (blk_cell BK631.out 0).trans rfl
   have hcz53_1 : w47.cell? ⟨gb631, 1, none⟩ = some (.int .i64 (Go.bits .or .i64 a1_1 t630)) := (blk_cell BK631.out 1).trans rfl
   have hfz53_0 := blk_frozen BK631.out 0
   have hfz53_1 := blk_frozen BK631.out 1
   try go_wp2_with (first | ((with_reducible refine gate_callee (f := 77) rfl ?_);refine goesL_ (some 66) rfl rfl Try.func77 (by kernel_rfl) rfl #[.agg #[.slice A0_0 l0_0.length c0_0], .agg #[.int .i64 (Go.bits .or .i64 a1_0 t632), .int .i64 (Go.bits .or .i64 a1_1 t630)], .int .i64 a2] rfl mM ?_;(with_reducible refine (ih k1 (by have := HK1.out;omega) _ _ l0_0 (Go.bits .or .i64 a1_0 t632) (Go.bits .or .i64 a1_1 t630) a2 t633 t634 _ ?side1 ?side2 A37.out).mono ?_);(case side1 => exact Kd.C_below HR0_0.out (by exact bB));(case side2 => exact HC0_0.out);rintro e w54 ⟨v635, rfl, ho0, hb⟩;refine ⟨_, rfl, ?_⟩;have n0_ := aM (Kd.N_elder' (by (with_reducible repeat (first | apply Kd.N_alloc | apply Kd.N_drewN | apply Kd.N_drew));exact (Kd.N_mono (Kd.N_far (p := ⟨gb631, 0, none⟩) (Kd.N_mono HO_10.out (fun k_ hk => (⟨hk, hk.2.2.2.2⟩ : _ ∧ k_ ≠ gb631))) (fun _ hk => hk.2) (.int .i64 (Go.bits .or .i64 a1_0 t632))) (fun _ h_ => h_.1))) (Kd.N_base ho0) hb);have n1_ := aM (Kd.N_elder' (by (with_reducible repeat (first | apply Kd.N_alloc | apply Kd.N_drewN | apply Kd.N_drew));exact (Kd.N_mono (Kd.N_far (p := ⟨gb631, 0, none⟩) (Kd.N_mono HO_41.out (fun k_ hk => (⟨hk, hk.2.2.2.2⟩ : _ ∧ k_ ≠ gb631))) (fun _ hk => hk.2) (.int .i64 (Go.bits .or .i64 a1_0 t632))) (fun _ h_ => h_.1))) (Kd.N_base ho0) hb);have n2_ := aM (Kd.V_elder' (by (with_reducible repeat (first | apply Kd.V_alloc | apply Kd.V_drewN | apply Kd.V_drew));exact (Kd.V_mono (Kd.V_far (p := ⟨gb631, 0, none⟩) (Kd.V_mono HL629_0.out (fun k_ hk => (⟨hk, hk.2.2.2.2.2⟩ : _ ∧ k_ ≠ gb631))) (fun _ hk => hk.2) (.int .i64 (Go.bits .or .i64 a1_0 t632))) (fun _ h_ => h_.1))) (Kd.N_base ho0) hb);have n3_ := aM (Kd.N_lower (Kd.N_mono (ok' := fun k_ => (w.heap.size ≤ k_) ∧ some k_ ≠ (u10 : Value).ownBlock ∧ some k_ ≠ (.slice (some ad629) t626.length co31 : Value).ownBlock ∧ k_ ≠ gb617 ∧ k_ ≠ gb618 ∧ k_ ≠ gb631) ho0 (fun k_ hk_ => ⟨(Nat.le_trans (below_size (by exact bB)) hk_), (Kd.fresh' (Kd.N_lt (by (with_reducible repeat (first | apply Kd.N_alloc | apply Kd.N_drewN | apply Kd.N_drew));exact (Kd.N_mono (Kd.N_far (p := ⟨gb631, 0, none⟩) (Kd.N_mono HO_10.out (fun k_ hk => (⟨hk, hk.2.2.2.2⟩ : _ ∧ k_ ≠ gb631))) (fun _ hk => hk.2) (.int .i64 (Go.bits .or .i64 a1_0 t632))) (fun _ h_ => h_.1)))) k_ hk_), (Kd.fresh' (Kd.N_lt (by (with_reducible repeat (first | apply Kd.N_alloc | apply Kd.N_drewN | apply Kd.N_drew));exact (Kd.N_mono (Kd.N_far (p := ⟨gb631, 0, none⟩) (Kd.N_mono HO_41.out (fun k_ hk => (⟨hk, hk.2.2.2.2⟩ : _ ∧ k_ ≠ gb631))) (fun _ hk => hk.2) (.int .i64 (Go.bits .or .i64 a1_0 t632))) (fun _ h_ => h_.1)))) k_ hk_), (Kd.freshB (g := gb617) (o := .cells #[.slice A0_0 l0_0.length c0_0] 80 (0, 0)) (by refine kP ?_;refine blk_far ?_ NB617_631.out _;exact kP BK617.out) k_ hk_), (Kd.freshB (g := gb618) (o := .cells #[.int .i64 a1_0, .int .i64 a1_1] 75 (0, 0)) (by refine kP ?_;refine blk_far ?_ NB618_631.out _;exact kP BK618.out) k_ hk_), (Kd.freshB (g := gb631) (o := .cells #[.int .i64 (Go.bits .or .i64 a1_0 t632), .int .i64 (Go.bits .or .i64 a1_1 t630)] 75 (0, 0)) (by refine kP ?_;refine blk_put (cs := #[.int .i64 a1_0, .int .i64 (Go.bits .or .i64 a1_1 t630)]) ?_ 0 _ rfl;exact kP BK631.out) k_ hk_)⟩)) (below_size (by exact bB)));have n4_ := aM (blk_below (g := gb617) (o := .cells #[.slice A0_0 l0_0.length c0_0] 80 (0, 0)) (by refine kP ?_;refine blk_far ?_ NB617_631.out _;exact kP BK617.out) hb);have n5_ := aM (blk_below (g := gb618) (o := .cells #[.int .i64 a1_0, .int .i64 a1_1] 75 (0, 0)) (by refine kP ?_;refine blk_far ?_ NB618_631.out _;exact kP BK618.out) hb);have n6_ := aM (blk_below (g := gb631) (o := .cells #[.int .i64 (Go.bits .or .i64 a1_0 t632), .int .i64 (Go.bits .or .i64 a1_1 t630)] 75 (0, 0)) (by refine kP ?_;refine blk_put (cs := #[.int .i64 a1_0, .int .i64 (Go.bits .or .i64 a1_1 t630)]) ?_ 0 _ rfl;exact kP BK631.out) hb);have n7_ := aM (below_step (by exact bB) hb);clear HO_10;clear HO_41;clear HL629_0;clear BK617;clear BK618;clear BK631;clear HB;have HO_10 := n0_;have HO_41 := n1_;have HL629_0 := n2_;have HO636 := n3_;have BK617 := n4_;have BK618 := n5_;have BK631 := n6_;have HB := n7_;clear n0_ n1_ n2_ n3_ n4_ n5_ n6_ n7_;(try clear hb);(try clear hb2);(try clear hk);(try clear hi);(try clear ho0)) | ((with_reducible refine gate_dst (N := 74) rfl ?_);refine Kd.N_lit (Kd.slice 3 (Kd.int .i64)) _ 28 ?hg (N' := 74) ?hd (xs := ([rd_L3 t626 x43_1] : List (List Int))) (inner := [.slice A629_0 (rd_L3 t626 x43_1).length c629_0]) (ok := (fun k_ => (w.heap.size ≤ k_) ∧ some k_ ≠ (u10 : Value).ownBlock ∧ some k_ ≠ (.slice (some ad629) t626.length co31 : Value).ownBlock ∧ some k_ ≠ (v635 : Value).ownBlock ∧ k_ ≠ gb617 ∧ k_ ≠ gb618 ∧ k_ ≠ gb631)) (okp := (fun k_ => (w.heap.size ≤ k_) ∧ some k_ ≠ (u10 : Value).ownBlock ∧ some k_ ≠ (.slice (some ad629) t626.length co31 : Value).ownBlock ∧ some k_ ≠ (v635 : Value).ownBlock ∧ k_ ≠ gb617 ∧ k_ ≠ gb618 ∧ k_ ≠ gb631)) ?hr ?hp (fun _ hk => hk) ((show ∀ k_, w54.heap.size ≤ k_ → (fun k_ => (w.heap.size ≤ k_) ∧ some k_ ≠ (u10 : Value).ownBlock ∧ some k_ ≠ (.slice (some ad629) t626.length co31 : Value).ownBlock ∧ some k_ ≠ (v635 : Value).ownBlock ∧ k_ ≠ gb617 ∧ k_ ≠ gb618 ∧ k_ ≠ gb631) k_ from fun k_ hk => ⟨(Nat.le_trans (below_size (by exact bB)) hk), Kd.fresh' (Kd.N_lt (by (with_reducible repeat (first | apply Kd.N_alloc | apply Kd.N_drewN | apply Kd.N_drew));exact HO_10.out)) k_ hk, Kd.fresh' (Kd.N_lt (by (with_reducible repeat (first | apply Kd.N_alloc | apply Kd.N_drewN | apply Kd.N_drew));exact HO_41.out)) k_ hk, Kd.fresh' (Kd.N_lt (by (with_reducible repeat (first | apply Kd.N_alloc | apply Kd.N_drewN | apply Kd.N_drew));exact HO636.out)) k_ hk, Kd.freshB (g := gb617) (o := .cells #[.slice A0_0 l0_0.length c0_0] 80 (0, 0)) (by exact kP BK617.out) k_ hk, Kd.freshB (g := gb618) (o := .cells #[.int .i64 a1_0, .int .i64 a1_1] 75 (0, 0)) (by exact kP BK618.out) k_ hk, Kd.freshB (g := gb631) (o := .cells #[.int .i64 (Go.bits .or .i64 a1_0 t632), .int .i64 (Go.bits .or .i64 a1_1 t630)] 75 (0, 0)) (by exact kP BK631.out) k_ hk⟩) _ (Nat.le_refl _)) (Below.refl _ _) (Nat.le_refl _) (by simp) ?_;(case hd => rfl);(case hg => rfl);(case hr => first | (go_simp;done) | (go_simp;rfl));(case hp => exact (Reps.one (show Kd.FK (Kd.slice 3 (Kd.int .i64)) _ _ (rd_L3 t626 x43_1) [.slice A629_0 (rd_L3 t626 x43_1).length c629_0] from (Kd.FK_slice_mk (Kd.V_reads' (Kd.V_mono (ok' := (fun k_ => (w.heap.size ≤ k_) ∧ some k_ ≠ (u10 : Value).ownBlock ∧ some k_ ≠ (.slice (some ad629) t626.length co31 : Value).ownBlock ∧ some k_ ≠ (v635 : Value).ownBlock ∧ k_ ≠ gb617 ∧ k_ ≠ gb618 ∧ k_ ≠ gb631)) (HL629_0.out) (fun k_ hk => ⟨hk.1.1, ⟨hk.1.2.1, ⟨hk.1.2.2.1, ⟨hk.2, ⟨hk.1.2.2.2.1, ⟨hk.1.2.2.2.2.1, hk.1.2.2.2.2.2⟩⟩⟩⟩⟩⟩))).2.1 (Kd.V_F (Kd.V_mono (ok' := (fun k_ => (w.heap.size ≤ k_) ∧ some k_ ≠ (u10 : Value).ownBlock ∧ some k_ ≠ (.slice (some ad629) t626.length co31 : Value).ownBlock ∧ some k_ ≠ (v635 : Value).ownBlock ∧ k_ ≠ gb617 ∧ k_ ≠ gb618 ∧ k_ ≠ gb631)) (HL629_0.out) (fun k_ hk => ⟨hk.1.1, ⟨hk.1.2.1, ⟨hk.1.2.2.1, ⟨hk.2, ⟨hk.1.2.2.2.1, ⟨hk.1.2.2.2.2.1, hk.1.2.2.2.2.2⟩⟩⟩⟩⟩⟩))))) (Reps.none _ _)));intro v638 w55 ho56 hb hg_ hnew_;clear hg_ hnew_;(first | rw [← Ny637.out] at ho56 | (simp only [Int.reduceToNat] at ho56;rw [← Ny637.out] at ho56));have n0_ := aM (Kd.N_elder' (by (with_reducible repeat (first | apply Kd.N_alloc | apply Kd.N_drewN | apply Kd.N_drew));exact HO_10.out) (Kd.N_base ho56) hb);have n1_ := aM (Kd.N_elder' (by (with_reducible repeat (first | apply Kd.N_alloc | apply Kd.N_drewN | apply Kd.N_drew));exact HO_41.out) (Kd.N_base ho56) hb);have n2_ := aM (Kd.V_elder' (by (with_reducible repeat (first | apply Kd.V_alloc | apply Kd.V_drewN | apply Kd.V_drew));exact HL629_0.out) (Kd.N_base ho56) hb);have n3_ := aM (Kd.N_elder' (by (with_reducible repeat (first | apply Kd.N_alloc | apply Kd.N_drewN | apply Kd.N_drew));exact HO636.out) (Kd.N_base ho56) hb);have n4_ := aM (Kd.N_lower ho56 (below_size (by exact bB)));have n5_ := aM (blk_below (g := gb617) (o := .cells #[.slice A0_0 l0_0.length c0_0] 80 (0, 0)) (by exact kP BK617.out) hb);have n6_ := aM (blk_below (g := gb618) (o := .cells #[.int .i64 a1_0, .int .i64 a1_1] 75 (0, 0)) (by exact kP BK618.out) hb);have n7_ := aM (blk_below (g := gb631) (o := .cells #[.int .i64 (Go.bits .or .i64 a1_0 t632), .int .i64 (Go.bits .or .i64 a1_1 t630)] 75 (0, 0)) (by exact kP BK631.out) hb);have n8_ := aM (below_step (by exact bB) hb);clear HO_10;clear HO_41;clear HL629_0;clear HO636;clear BK617;clear BK618;clear BK631;clear HB;have HO_10 := n0_;have HO_41 := n1_;have HL629_0 := n2_;have HO636 := n3_;have HO639 := n4_;have BK617 := n5_;have BK618 := n6_;have BK631 := n7_;have HB := n8_;clear n0_ n1_ n2_ n3_ n4_ n5_ n6_ n7_ n8_;clear hb ho56;obtain ⟨Ao58, co58, eo58⟩ := Kd.N_slice HO636.out;subst eo58) | ((with_reducible refine gate_builtin (b := .append) (xs := #[.tmp 74, .tmp 75]) rfl ?_);at_builtin;refine Kd.N_append_rows (Kd.slice 3 (Kd.int .i64)) (w0 := w) w.heap.size rfl (.tmp 74) (.tmp 75) 25 28 (.slice none 0 0) 24 rfl Try.underlying25 info28 rfl (by decide) (by omega) v638 y637 t634 _ _ _ (fun k_ => (w.heap.size ≤ k_) ∧ some k_ ≠ (u10 : Value).ownBlock ∧ some k_ ≠ (.slice (some ad629) t626.length co31 : Value).ownBlock ∧ k_ ≠ gb617 ∧ k_ ≠ gb618 ∧ k_ ≠ gb631) (fun k_ => ((fun k_ => (w.heap.size ≤ k_) ∧ some k_ ≠ (u10 : Value).ownBlock ∧ some k_ ≠ (.slice (some ad629) t626.length co31 : Value).ownBlock ∧ k_ ≠ gb617 ∧ k_ ≠ gb618 ∧ k_ ≠ gb631)) k_ ∧ some k_ ≠ (v638 : Value).ownBlock) rfl rfl ?aO ?aR (fun _ hk => hk) ?aF ?aB ?aS ?aL ?_;(case aR => exact (by skip;exact Kd.N_F (Kd.N_mono (ok' := (fun k_ => ((fun k_ => (w.heap.size ≤ k_) ∧ some k_ ≠ (u10 : Value).ownBlock ∧ some k_ ≠ (.slice (some ad629) t626.length co31 : Value).ownBlock ∧ k_ ≠ gb617 ∧ k_ ≠ gb618 ∧ k_ ≠ gb631)) k_ ∧ some k_ ≠ (v638 : Value).ownBlock)) (HO636.out) (fun k_ hk => ⟨⟨hk.1.1, ⟨hk.1.2.1, ⟨hk.1.2.2.1, ⟨hk.1.2.2.2.1, ⟨hk.1.2.2.2.2.1, hk.1.2.2.2.2.2⟩⟩⟩⟩⟩, hk.2⟩))));(case aB => exact (by exact bB));(case aF => exact (fun k_ hk => ⟨(Nat.le_trans (below_size (by exact bB)) hk), Kd.fresh' (Kd.N_lt (by (with_reducible repeat (first | apply Kd.N_alloc | apply Kd.N_drewN | apply Kd.N_drew));exact HO_10.out)) k_ hk, Kd.fresh' (Kd.N_lt (by (with_reducible repeat (first | apply Kd.N_alloc | apply Kd.N_drewN | apply Kd.N_drew));exact HO_41.out)) k_ hk, Kd.freshB (g := gb617) (o := .cells #[.slice A0_0 l0_0.length c0_0] 80 (0, 0)) (by exact kP BK617.out) k_ hk, Kd.freshB (g := gb618) (o := .cells #[.int .i64 a1_0, .int .i64 a1_1] 75 (0, 0)) (by exact kP BK618.out) k_ hk, Kd.freshB (g := gb631) (o := .cells #[.int .i64 (Go.bits .or .i64 a1_0 t632), .int .i64 (Go.bits .or .i64 a1_1 t630)] 75 (0, 0)) (by exact kP BK631.out) k_ hk⟩));(case aO => exact (by (with_reducible repeat (first | apply Kd.N_alloc | apply Kd.N_drewN | apply Kd.N_drew));exact Kd.N_mono HO639.out (fun _ hk => ⟨hk.1, ⟨hk.2.1, ⟨hk.2.2.1, ⟨hk.2.2.2.2.1, ⟨hk.2.2.2.2.2.1, hk.2.2.2.2.2.2⟩⟩⟩⟩⟩)));(case aS => exact (below_size (by exact bB)));(case aL => have := LMc39.out;omega);intro v641 w57 ho hb hg hat;rw [← Ny640.out] at ho;have n0_ := aM (Kd.N_afterv (ok := (fun k_ => (w.heap.size ≤ k_) ∧ some k_ ≠ (.slice (some ad629) t626.length co31 : Value).ownBlock ∧ some k_ ≠ (.slice Ao58 t634.length co58 : Value).ownBlock ∧ k_ ≠ gb617 ∧ k_ ≠ gb618 ∧ k_ ≠ gb631)) (by (with_reducible repeat (first | apply Kd.N_alloc | apply Kd.N_drewN | apply Kd.N_drew));exact Kd.N_mono HO_10.out (fun _ hk => ⟨⟨hk.1.1.1, ⟨hk.1.1.2.1, ⟨hk.1.2, ⟨hk.1.1.2.2.1, ⟨hk.1.1.2.2.2.1, hk.1.1.2.2.2.2⟩⟩⟩⟩⟩, hk.2⟩)) hg hat);have n1_ := aM (Kd.N_afterv (ok := (fun k_ => (w.heap.size ≤ k_) ∧ some k_ ≠ (u10 : Value).ownBlock ∧ some k_ ≠ (.slice Ao58 t634.length co58 : Value).ownBlock ∧ k_ ≠ gb617 ∧ k_ ≠ gb618 ∧ k_ ≠ gb631)) (by (with_reducible repeat (first | apply Kd.N_alloc | apply Kd.N_drewN | apply Kd.N_drew));exact Kd.N_mono HO_41.out (fun _ hk => ⟨⟨hk.1.1.1, ⟨hk.1.1.2.1, ⟨hk.1.2, ⟨hk.1.1.2.2.1, ⟨hk.1.1.2.2.2.1, hk.1.1.2.2.2.2⟩⟩⟩⟩⟩, hk.2⟩)) hg hat);have n2_ := aM (blk_grown (g := gb617) (o := .cells #[.slice A0_0 l0_0.length c0_0] 80 (0, 0)) (by exact kP BK617.out) hg (Kd.N_ne HO639.out BK617.out (by decide)));have n3_ := aM (blk_grown (g := gb618) (o := .cells #[.int .i64 a1_0, .int .i64 a1_1] 75 (0, 0)) (by exact kP BK618.out) hg (Kd.N_ne HO639.out BK618.out (by decide)));have n4_ := aM (Kd.V_afterv (ok := (fun k_ => (w.heap.size ≤ k_) ∧ some k_ ≠ (u10 : Value).ownBlock ∧ some k_ ≠ (.slice (some ad629) t626.length co31 : Value).ownBlock ∧ some k_ ≠ (.slice Ao58 t634.length co58 : Value).ownBlock ∧ k_ ≠ gb617 ∧ k_ ≠ gb618 ∧ k_ ≠ gb631)) (by (with_reducible repeat (first | apply Kd.V_alloc | apply Kd.V_drewN | apply Kd.V_drew));exact Kd.V_mono HL629_0.out (fun _ hk => ⟨⟨hk.1.1.1, ⟨hk.1.1.2.1, ⟨hk.1.1.2.2.1, ⟨hk.1.2, ⟨hk.1.1.2.2.2.1, ⟨hk.1.1.2.2.2.2.1, hk.1.1.2.2.2.2.2⟩⟩⟩⟩⟩⟩, hk.2⟩)) hg hat);have n5_ := aM (blk_grown (g := gb631) (o := .cells #[.int .i64 (Go.bits .or .i64 a1_0 t632), .int .i64 (Go.bits .or .i64 a1_1 t630)] 75 (0, 0)) (by exact kP BK631.out) hg (Kd.N_ne HO639.out BK631.out (by decide)));have n6_ := aM (Kd.N_afterv (ok := (fun k_ => (w.heap.size ≤ k_) ∧ some k_ ≠ (u10 : Value).ownBlock ∧ some k_ ≠ (.slice (some ad629) t626.length co31 : Value).ownBlock ∧ k_ ≠ gb617 ∧ k_ ≠ gb618 ∧ k_ ≠ gb631)) (by (with_reducible repeat (first | apply Kd.N_alloc | apply Kd.N_drewN | apply Kd.N_drew));exact HO636.out) hg hat);have n7_ := aM (hb);have n8_ := aM (ho);clear HO_10;clear HO_41;clear BK617;clear BK618;clear HL629_0;clear BK631;clear HO636;clear HB;clear HO639;have HO_10 := n0_;have HO_41 := n1_;have BK617 := n2_;have BK618 := n3_;have HL629_0 := n4_;have BK631 := n5_;have HO636 := n6_;have HB := n7_;have HO642 := n8_;clear n0_ n1_ n2_ n3_ n4_ n5_ n6_ n7_ n8_;clear ho hb hg hat))
   go_roundg k1
   case measure => have := HK1.out;omega
   case rel => exact ⟨(t633), (y640), (wrap64 (x43_1 + 1)), (by first | rfl | (simp;done) | (simp [*];done)), (by first | rfl | (simp;done) | (simp [*];done)), H', ⟨by have := HK1.out;omega⟩, ⟨by (with_reducible repeat (first | apply Kd.N_alloc | apply Kd.N_drewN | apply Kd.N_drew));exact Kd.N_mono HO642.out (fun _ hk => ⟨hk.1, ⟨hk.2.2.1, ⟨hk.2.2.2.1, hk.2.2.2.2.1⟩⟩⟩)⟩, ⟨by (with_reducible repeat (first | apply Kd.N_alloc | apply Kd.N_drewN | apply Kd.N_drew));exact Kd.N_mono HO_41.out (fun _ hk => ⟨hk.1.1, ⟨hk.2, ⟨hk.1.2.2.2.1, hk.1.2.2.2.2.1⟩⟩⟩)⟩, ⟨by exact kP BK617.out⟩, ⟨by exact kP BK618.out⟩, ⟨by exact bB⟩⟩


end Go.Proofs.Ytmokkhfmbenleaa.QSavedSum
