import Derived.Test.YtmokkhfmbenleaaQSpreading0
import Derived.Test.YtmokkhfmbenleaaQSpreading2
import Derived.Test.YtmokkhfmbenleaaQSpreading3
import Derived.Test.YtmokkhfmbenleaaQSpreading4
import Derived.Test.YtmokkhfmbenleaaQSpreading5
namespace Go.Proofs.Ytmokkhfmbenleaa.QSpreading
open Go.RowKit Go.Proofs.YtmokkhfmbenleaaW.PrintWords Go.Proofs.YtmokkhfmbenleaaW.PrintLast Go.Proofs.YtmokkhfmbenleaaW.PrintMore
attribute [local go_sem] max2_int min2_int max_two min_two max_three min_three max_four min_four   -- for this text's walks alone
set_option linter.unusedVariables false
set_option linter.unusedSimpArgs false
/-! ### spec_l1Cur_someGraph: function 79 -/
mutual
def spec_l1Cur_someGraph.j0 : Nat → Int → Int → Bool → List Int → Int → Int → Option (Int × (List (S119)) × Int × Int)
 | 0, _, _, _, _, _, _ => none
 | k + 1, x1, x5, x20, x1000, x1001, x1002 => if x20 = true then ((spec_l1Cur_pick.f x1000 x1001 x1002 2).bind fun bt491 => (spec_l1Cur_someGraph.j1 k x1 (wrap64 (7 + bt491.1)) x1000 bt491.2.1 bt491.2.2)) else (spec_l1Cur_someGraph.j1 k x1 x5 x1000 x1001 x1002)
def spec_l1Cur_someGraph.j1 : Nat → Int → Int → List Int → Int → Int → Option (Int × (List (S119)) × Int × Int)
 | 0, _, _, _, _, _ => none
 | k + 1, x1, x5, x1000, x1001, x1002 => (spec_l1Least.f x5 x1).bind fun t494 => ((some (([] : List (S119)) : List (S119))).bind fun y495 => ((spec_l1Cur_pick.f x1000 x1001 x1002 8).bind fun bt499 => (if bt499.1 = 0 then ((spec_l2Path.f k t494).bind fun bt502 => ((spec_l1Cur_marred.f x1000 bt499.2.1 bt499.2.2 bt502.1 bt502.2).bind fun bt506 => (some (bt506.1, bt506.2.1, bt506.2.2.1, bt506.2.2.2)))) else (if bt499.1 = 1 then (if t494 > 2 then ((spec_l2Cycle.f k t494).bind fun bt512 => ((spec_l1Cur_marred.f x1000 bt499.2.1 bt499.2.2 bt512.1 bt512.2).bind fun bt516 => (some (bt516.1, bt516.2.1, bt516.2.2.1, bt516.2.2.2)))) else ((spec_l1Cur_marred.f x1000 bt499.2.1 bt499.2.2 t494 y495).bind fun bt522 => (some (bt522.1, bt522.2.1, bt522.2.2.1, bt522.2.2.2)))) else (if bt499.1 = 2 then ((spec_l2Complete.f k t494).bind fun bt528 => ((spec_l1Cur_marred.f x1000 bt499.2.1 bt499.2.2 bt528.1 bt528.2).bind fun bt532 => (some (bt532.1, bt532.2.1, bt532.2.2.1, bt532.2.2.2)))) else ((spec_l1Cur_among.f x1000 bt499.2.1 bt499.2.2 (([3, 4, 6] : List Int))).bind fun bt541 => ((spec_l1Cur_one.f x1000 bt541.2.1 bt541.2.2 6).bind fun bt544 => (spec_l1Cur_someGraph.l0 k t494 bt541.1 bt544.1 0 x1000 bt544.2.1 bt544.2.2 t494 y495))))))))
def spec_l1Cur_someGraph.l0 : Nat → Int → Int → Bool → Int → List Int → Int → Int → Int → List (S119) → Option (Int × (List (S119)) × Int × Int)
 | 0, _, _, _, _, _, _, _, _, _ => none
 | k + 1, x5, x7, x8, x9, x1000, x1001, x1002, x499000, x499001 => if x9 < x5 then (spec_l1Cur_someGraph.l1 k x5 x7 x8 x9 (wrap64 (x9 + 1)) x1000 x1001 x1002 x499000 x499001) else ((spec_l1Cur_marred.f x1000 x1001 x1002 x499000 x499001).bind fun bt547 => (some (bt547.1, bt547.2.1, bt547.2.2.1, bt547.2.2.2)))
def spec_l1Cur_someGraph.l1 : Nat → Int → Int → Bool → Int → Int → List Int → Int → Int → Int → List (S119) → Option (Int × (List (S119)) × Int × Int)
 | 0, _, _, _, _, _, _, _, _, _, _ => none
 | k + 1, x5, x7, x8, x9, x10, x1000, x1001, x1002, x499000, x499001 => if x10 < x5 then ((spec_l1Cur_pick.f x1000 x1001 x1002 x7).bind fun bt553 => (if bt553.1 = 0 then ((spec_l2Put.f k x499001 x9 x10).bind fun t556 => (spec_l1Cur_someGraph.l1 k x5 x7 x8 x9 (wrap64 (x10 + 1)) x1000 bt553.2.1 bt553.2.2 x499000 t556)) else (spec_l1Cur_someGraph.l1 k x5 x7 x8 x9 (wrap64 (x10 + 1)) x1000 bt553.2.1 bt553.2.2 x499000 x499001))) else ((spec_l1Most.f x9 1).bind fun t559 => ((spec_l1Cur_pick.f x1000 x1001 x1002 t559).bind fun bt560 => (if x9 > 0 then (if x8 = true then (spec_l1Cur_someGraph.l0 k x5 x7 x8 (wrap64 (x9 + 1)) x1000 bt560.2.1 bt560.2.2 x499000 x499001) else ((spec_l2Near.f k x499000 x499001 x9 bt560.1).bind fun t563 => (if t563 = true then (spec_l1Cur_someGraph.l0 k x5 x7 x8 (wrap64 (x9 + 1)) x1000 bt560.2.1 bt560.2.2 x499000 x499001) else ((spec_l2Put.f k x499001 bt560.1 x9).bind fun t564 => (spec_l1Cur_someGraph.l0 k x5 x7 x8 (wrap64 (x9 + 1)) x1000 bt560.2.1 bt560.2.2 x499000 t564))))) else (spec_l1Cur_someGraph.l0 k x5 x7 x8 (wrap64 (x9 + 1)) x1000 bt560.2.1 bt560.2.2 x499000 x499001))))
end
def spec_l1Cur_someGraph.f (k : Nat) (s0_0 : List Int) (s0_1 : Int) (s0_2 : Int) (a1 : Int) : Option (Int × (List (S119)) × Int × Int) := (spec_l1Cur_among.f s0_0 s0_1 s0_2 (([4, 5, 3, 6, 2, 1, 0] : List Int))).bind fun bt485 => (if a1 > 6 then ((spec_l1Cur_one.f s0_0 bt485.2.1 bt485.2.2 4).bind fun bt488 => (spec_l1Cur_someGraph.j0 k a1 bt485.1 bt488.1 s0_0 bt488.2.1 bt488.2.2)) else (spec_l1Cur_someGraph.j0 k a1 bt485.1 false s0_0 bt485.2.1 bt485.2.2))
theorem spec_l1Cur_someGraph.mono_l : ∀ k, (∀ y0 y1 y2 y3 y4 y5, LeO (spec_l1Cur_someGraph.j0 k y0 y1 y2 y3 y4 y5) (spec_l1Cur_someGraph.j0 (k + 1) y0 y1 y2 y3 y4 y5)) ∧ (∀ y0 y1 y2 y3 y4, LeO (spec_l1Cur_someGraph.j1 k y0 y1 y2 y3 y4) (spec_l1Cur_someGraph.j1 (k + 1) y0 y1 y2 y3 y4)) ∧ (∀ y0 y1 y2 y3 y4 y5 y6 y7 y8, LeO (spec_l1Cur_someGraph.l0 k y0 y1 y2 y3 y4 y5 y6 y7 y8) (spec_l1Cur_someGraph.l0 (k + 1) y0 y1 y2 y3 y4 y5 y6 y7 y8)) ∧ (∀ y0 y1 y2 y3 y4 y5 y6 y7 y8 y9, LeO (spec_l1Cur_someGraph.l1 k y0 y1 y2 y3 y4 y5 y6 y7 y8 y9) (spec_l1Cur_someGraph.l1 (k + 1) y0 y1 y2 y3 y4 y5 y6 y7 y8 y9))
 | 0 => ⟨fun _ _ _ _ _ _ r h => by simp [spec_l1Cur_someGraph.j0] at h, fun _ _ _ _ _ r h => by simp [spec_l1Cur_someGraph.j1] at h, fun _ _ _ _ _ _ _ _ _ r h => by simp [spec_l1Cur_someGraph.l0] at h, fun _ _ _ _ _ _ _ _ _ _ r h => by simp [spec_l1Cur_someGraph.l1] at h⟩
 | k + 1 => by
  obtain ⟨ih0, ih1, ih2, ih3⟩ := spec_l1Cur_someGraph.mono_l k
  refine ⟨?_, ?_, ?_, ?_⟩
  ·intro y0 y1 y2 y3 y4 y5
   unfold spec_l1Cur_someGraph.j0
   repeat' first
   | (with_reducible exact ih0 _ _ _ _ _ _)
   | (with_reducible exact ih1 _ _ _ _ _)
   | (with_reducible exact ih2 _ _ _ _ _ _ _ _ _)
   | (with_reducible exact ih3 _ _ _ _ _ _ _ _ _ _)
   | (with_reducible exact spec_l2Complete.mono _ _)
   | (with_reducible exact spec_l2Cycle.mono _ _)
   | (with_reducible exact spec_l2Near.mono _ _ _ _ _)
   | (with_reducible exact spec_l2Path.mono _ _)
   | (with_reducible exact spec_l2Put.mono _ _ _ _)
   | (with_reducible exact LeO.refl _)
   | (with_reducible exact LeO.none _)
   | (with_reducible refine LeO.ite ?_ ?_)
   | (with_reducible refine LeO.bind ?_ (fun _ => ?_))
   | exact LeO.none _
   | refine LeO.ite ?_ ?_
   | refine LeO.bind ?_ (fun _ => ?_)
  ·intro y0 y1 y2 y3 y4
   unfold spec_l1Cur_someGraph.j1
   repeat' first
   | (with_reducible exact ih0 _ _ _ _ _ _)
   | (with_reducible exact ih1 _ _ _ _ _)
   | (with_reducible exact ih2 _ _ _ _ _ _ _ _ _)
   | (with_reducible exact ih3 _ _ _ _ _ _ _ _ _ _)
   | (with_reducible exact spec_l2Complete.mono _ _)
   | (with_reducible exact spec_l2Cycle.mono _ _)
   | (with_reducible exact spec_l2Near.mono _ _ _ _ _)
   | (with_reducible exact spec_l2Path.mono _ _)
   | (with_reducible exact spec_l2Put.mono _ _ _ _)
   | (with_reducible exact LeO.refl _)
   | (with_reducible exact LeO.none _)
   | (with_reducible refine LeO.ite ?_ ?_)
   | (with_reducible refine LeO.bind ?_ (fun _ => ?_))
   | exact LeO.none _
   | refine LeO.ite ?_ ?_
   | refine LeO.bind ?_ (fun _ => ?_)
  ·intro y0 y1 y2 y3 y4 y5 y6 y7 y8
   unfold spec_l1Cur_someGraph.l0
   repeat' first
   | (with_reducible exact ih0 _ _ _ _ _ _)
   | (with_reducible exact ih1 _ _ _ _ _)
   | (with_reducible exact ih2 _ _ _ _ _ _ _ _ _)
   | (with_reducible exact ih3 _ _ _ _ _ _ _ _ _ _)
   | (with_reducible exact spec_l2Complete.mono _ _)
   | (with_reducible exact spec_l2Cycle.mono _ _)
   | (with_reducible exact spec_l2Near.mono _ _ _ _ _)
   | (with_reducible exact spec_l2Path.mono _ _)
   | (with_reducible exact spec_l2Put.mono _ _ _ _)
   | (with_reducible exact LeO.refl _)
   | (with_reducible exact LeO.none _)
   | (with_reducible refine LeO.ite ?_ ?_)
   | (with_reducible refine LeO.bind ?_ (fun _ => ?_))
   | exact LeO.none _
   | refine LeO.ite ?_ ?_
   | refine LeO.bind ?_ (fun _ => ?_)
  ·intro y0 y1 y2 y3 y4 y5 y6 y7 y8 y9
   unfold spec_l1Cur_someGraph.l1
   repeat' first
   | (with_reducible exact ih0 _ _ _ _ _ _)
   | (with_reducible exact ih1 _ _ _ _ _)
   | (with_reducible exact ih2 _ _ _ _ _ _ _ _ _)
   | (with_reducible exact ih3 _ _ _ _ _ _ _ _ _ _)
   | (with_reducible exact spec_l2Complete.mono _ _)
   | (with_reducible exact spec_l2Cycle.mono _ _)
   | (with_reducible exact spec_l2Near.mono _ _ _ _ _)
   | (with_reducible exact spec_l2Path.mono _ _)
   | (with_reducible exact spec_l2Put.mono _ _ _ _)
   | (with_reducible exact LeO.refl _)
   | (with_reducible exact LeO.none _)
   | (with_reducible refine LeO.ite ?_ ?_)
   | (with_reducible refine LeO.bind ?_ (fun _ => ?_))
   | exact LeO.none _
   | refine LeO.ite ?_ ?_
   | refine LeO.bind ?_ (fun _ => ?_)
theorem spec_l1Cur_someGraph.mono : ∀ a0 a1 a2 a3 k, LeO (spec_l1Cur_someGraph.f k a0 a1 a2 a3) (spec_l1Cur_someGraph.f (k + 1) a0 a1 a2 a3) := by
 intro a0 a1 a2 a3 k
 obtain ⟨ih0, ih1, ih2, ih3⟩ := spec_l1Cur_someGraph.mono_l k
 unfold spec_l1Cur_someGraph.f
 repeat' first
   | (with_reducible exact ih0 _ _ _ _ _ _)
   | (with_reducible exact ih1 _ _ _ _ _)
   | (with_reducible exact ih2 _ _ _ _ _ _ _ _ _)
   | (with_reducible exact ih3 _ _ _ _ _ _ _ _ _ _)
   | (with_reducible exact spec_l2Complete.mono _ _)
   | (with_reducible exact spec_l2Cycle.mono _ _)
   | (with_reducible exact spec_l2Near.mono _ _ _ _ _)
   | (with_reducible exact spec_l2Path.mono _ _)
   | (with_reducible exact spec_l2Put.mono _ _ _ _)
   | (with_reducible exact LeO.refl _)
   | (with_reducible exact LeO.none _)
   | (with_reducible refine LeO.ite ?_ ?_)
   | (with_reducible refine LeO.bind ?_ (fun _ => ?_))
   | exact LeO.none _
   | refine LeO.ite ?_ ?_
   | refine LeO.bind ?_ (fun _ => ?_)
set_option maxHeartbeats 8000000 in
set_option maxRecDepth 100000 in
theorem spec_l1Cur_someGraph.calls (k : Nat) (g : Nat) (s0_0 : List Int) (s0_1 : Int) (s0_2 : Int) (a1 : Int) (r1 : Int) (r2 : List (S119)) (r3 : Int) (r4 : Int) (w0 w : World) (hI : IsS91 w0 w g s0_0 s0_1 s0_2) (hB : Below w0.heap.size w0 w) (h : spec_l1Cur_someGraph.f k s0_0 s0_1 s0_2 a1 = some (r1, r2, r3, r4)) :
  Calls Try.prog 79 #[.pointer (some ⟨g, 0, none⟩), .int .i64 a1] w fun e w' => ∃ v1_ : Value, e = .returned (.agg #[.int .i64 r1, v1_]) ∧ Kd.R k119 119 w' w.heap.size (fun _ => True) v1_ r2 ∧ IsS91 w0 w' g s0_0 r3 r4 ∧ Below w0.heap.size w0 w' ∧ KeepBut w w' g none := by
 have hu31 := Try.underlying31
 have hu119 := Try.underlying119
 have HI0 := Aside0.mk hI
 have HK := aM (KeepBut.refl w g none)
 have HL := Aside0.mk hB.size
 clear hI
 have HW0 := Aside0.mk hB.size
 have HB := Aside0.mk hB
 clear hB
 have H : ((spec_l1Cur_among.f s0_0 s0_1 s0_2 (([4, 5, 3, 6, 2, 1, 0] : List Int))).bind fun bt485 => (if a1 > 6 then ((spec_l1Cur_one.f s0_0 bt485.2.1 bt485.2.2 4).bind fun bt488 => (spec_l1Cur_someGraph.j0 k a1 bt485.1 bt488.1 s0_0 bt488.2.1 bt488.2.2)) else (spec_l1Cur_someGraph.j0 k a1 bt485.1 false s0_0 bt485.2.1 bt485.2.2))) = some (r1, r2, r3, r4) := h
 clear h
 obtain ⟨y482, hy482⟩ : ∃ y_ : List Int, y_ = (([4, 5, 3, 6, 2, 1, 0] : List Int)) := ⟨_, rfl⟩
 replace H : ((spec_l1Cur_among.f s0_0 s0_1 s0_2 y482).bind fun bt485 => (if a1 > 6 then ((spec_l1Cur_one.f s0_0 bt485.2.1 bt485.2.2 4).bind fun bt488 => (spec_l1Cur_someGraph.j0 k a1 bt485.1 bt488.1 s0_0 bt488.2.1 bt488.2.2)) else (spec_l1Cur_someGraph.j0 k a1 bt485.1 false s0_0 bt485.2.1 bt485.2.2))) = some (r1, r2, r3, r4) := by first | (rw [hy482];with_reducible exact H) | (have H2_ := (Option.bind_some _ _).symm.trans H;rw [hy482];with_reducible exact H2_) | (have H2_ := (Option.bind_some _ _).symm.trans H;with_reducible exact H2_) | with_reducible exact H | (rw [hy482];exact H) | exact H
 have Ny482 := Aside0.mk hy482
 clear hy482
 replace H := Option.bind_eq_some_iff.mp H
 obtain ⟨⟨t485, t486, t487⟩, A30, H⟩ := H
 replace H : (if a1 > 6 then ((spec_l1Cur_one.f s0_0 t486 t487 4).bind fun bt488 => (spec_l1Cur_someGraph.j0 k a1 t485 bt488.1 s0_0 bt488.2.1 bt488.2.2)) else (spec_l1Cur_someGraph.j0 k a1 t485 false s0_0 t486 t487)) = some (r1, r2, r3, r4) := H
 have A3 := Aside0.mk A30
 clear A30
 have HC4 := Aside0.mk H
 clear H
 go_enter Try.func79, Try.ntmps79
 go_upto_region 2 with (first | ((with_reducible refine gate_dst (N := 4) rfl ?_);refine box_event ?hg (N := 4) ?hd (cs := #[.int .i64 0, .slice none 0 0]) (t := 31) ?hr ?_;(case hd => rfl);(case hg => rfl);(case hr => first | (go_simp;done) | (go_simp;rfl));intro gb481 hg w5 hbox hb;have n0_ := aM (IsS91.below (by repeat (first | (with_reducible first | exact HI0.out | apply IsS91.alloc | apply IsS91.drewN | apply IsS91.drew | apply IsS91.set_1 | apply IsS91.set_2) | exact HI0.out)) hb);have n1_ := aM (KeepBut.trans (by exact kK) (KeepBut.of_below hb g none) (.inl rfl));have n2_ := aM (below_step (by exact bB) hb);have n3_ := aM (hbox);have n4_ := aM ((by rw [hg];exact (keep_size (w := w) (g := g) (row := none) (by exact kK)) : w.heap.size ≤ gb481));have n5_ := aM ((Nat.le_trans HW0.out (by rw [hg];exact (keep_size (w := w) (g := g) (row := none) (by exact kK)) : w.heap.size ≤ gb481) : w0.heap.size ≤ gb481));have n6_ := aM ((by rw [hg];exact Nat.ne_of_lt (IsS91.lt (show IsS91 w0 _ g s0_0 s0_1 s0_2 from by exact sS)) : g ≠ gb481));have n7_ := aM ((by rw [hg];exact Nat.ne_of_gt (IsS91.lt (show IsS91 w0 _ g s0_0 s0_1 s0_2 from by exact sS)) : gb481 ≠ g));clear HI0;clear HK;clear HB;have HI0 := n0_;have HK := n1_;have HB := n2_;have BK481 := n3_;have GW481 := n4_;have GE481 := n5_;have NB0_481 := n6_;have NB481_0 := n7_;clear n0_ n1_ n2_ n3_ n4_ n5_ n6_ n7_;clear hb hbox hg) | ((with_reducible refine gate_dst (N := 13) rfl ?_);refine Kd.R_lit (Kd.int .i64) _ 3 ?hg (N := 13) ?hd (xs := ([4, 5, 3, 6, 2, 1, 0] : List Int)) (inner := [.int .i64 4, .int .i64 5, .int .i64 3, .int .i64 6, .int .i64 2, .int .i64 1, .int .i64 0]) (ok := fun _ => True) (okp := fun _ => True) ?hr ?hp (fun _ hk => hk) trivial (Below.refl _ _) (Nat.le_refl _) (by simp) ?_;(case hd => rfl);(case hg => rfl);(case hr => first | (go_simp;done) | (go_simp;rfl));(case hp => exact (Reps.one (show Kd.M (Kd.int .i64) _ _ _ 4 [.int .i64 4] from rfl) (Reps.one (show Kd.M (Kd.int .i64) _ _ _ 5 [.int .i64 5] from rfl) (Reps.one (show Kd.M (Kd.int .i64) _ _ _ 3 [.int .i64 3] from rfl) (Reps.one (show Kd.M (Kd.int .i64) _ _ _ 6 [.int .i64 6] from rfl) (Reps.one (show Kd.M (Kd.int .i64) _ _ _ 2 [.int .i64 2] from rfl) (Reps.one (show Kd.M (Kd.int .i64) _ _ _ 1 [.int .i64 1] from rfl) (Reps.one (show Kd.M (Kd.int .i64) _ _ _ 0 [.int .i64 0] from rfl) (Reps.none _ _)))))))));intro v483 w6 ho7 hb hg_ hnew_;clear hg_ hnew_;(first | rw [← Ny482.out] at ho7 | (simp only [Int.reduceToNat] at ho7;rw [← Ny482.out] at ho7));have n0_ := aM (Kd.R_lower ho7 (keep_size (w := w) (g := g) (row := none) (by exact kK)));have n1_ := aM (IsS91.below (by repeat (first | (with_reducible first | exact HI0.out | apply IsS91.alloc | apply IsS91.drewN | apply IsS91.drew | apply IsS91.set_1 | apply IsS91.set_2 | refine IsS91.far ?_ NB0_481.out _) | exact HI0.out)) hb);have n2_ := aM (kB hb BK481.out);have n3_ := aM (KeepBut.trans (by exact kK) (KeepBut.of_below hb g none) (.inl rfl));have n4_ := aM (below_step (by exact bB) hb);clear HI0;clear BK481;clear HK;clear HB;have HO484 := n0_;have HI0 := n1_;have BK481 := n2_;have HK := n3_;have HB := n4_;clear n0_ n1_ n2_ n3_ n4_;clear hb ho7;obtain ⟨Ao8, co8, eo8⟩ := Kd.R_slice HO484.out;subst eo8) | ((with_reducible refine gate_callee (f := 129) rfl ?_);refine goesL_ (some 14) rfl rfl Try.func129 (by kernel_rfl) rfl #[.pointer (some ⟨g, 0, none⟩), .slice Ao8 y482.length co8] rfl mM ?_;(with_reducible refine (spec_l1Cur_among.calls g s0_0 s0_1 s0_2 _ _ y482 t485 t486 t487 w0 _ ?side1 ?side2 ?side3 ?side4 ?side5 A3.out).mono ?_);(case side1 => exact sS);(case side2 => exact bB);(case side3 => exact cP (Kd.R_reads' HO484.out).2.2);(case side4 => exact (Kd.R_reads' HO484.out).2.1);(case side5 => exact far_slice (IsS91.own_ne HI0.out HO484.out (by decide)));rintro e w9 ⟨rfl, hi, hb, hk⟩;refine ⟨_, rfl, ?_⟩;have n0_ := aM (KeepBut.blk hk (g' := gb481) (o := .cells #[.int .i64 0, .slice none 0 0] 31 (0, 0)) (by exact kP BK481.out) NB481_0.out (by simp));have n1_ := aM (Kd.R_mono (Kd.R_keep (IsS91.apart (show IsS91 w0 _ g s0_0 s0_1 s0_2 from by exact sS) (by exact rP HO484.out) (by decide)) hk (fun _ h => h.2)) (fun _ h => h.1));have n2_ := aM (KeepBut.trans (by exact kK) hk (.inl rfl));have n3_ := aM (hb);have n4_ := aM (hi);clear BK481;clear HO484;clear HK;clear HB;clear HI0;have BK481 := n0_;have HO484 := n1_;have HK := n2_;have HB := n3_;have HI0 := n4_;clear n0_ n1_ n2_ n3_ n4_;(try clear hb);(try clear hb2);(try clear hk);(try clear hi)))
 (try simp only [Act.put, List.setIfInBounds_toArray, List.set_cons_zero, List.set_cons_succ])
 go_cut [20] (fun v20 wc => ∃ (kq : Nat) (x20_3 : Bool) (x1001_3 : Int) (x1002_3 : Int), v20 = .bool x20_3 ∧ Aside0 (spec_l1Cur_someGraph.j0 kq a1 t485 x20_3 s0_0 x1001_3 x1002_3 = some (r1, r2, r3, r4)) ∧ Aside0 (kq ≤ k) ∧ Aside0 (wc.heap[gb481]? = some (.cells #[.int .i64 0, (.slice none 0 0)] 31 (0, 0))) ∧ Aside0 (IsS91 w0 wc g s0_0 x1001_3 x1002_3) ∧ Aside0 (KeepBut w wc g none) ∧ Aside0 (Below w0.heap.size w0 wc))
 case first =>
  have H := HC4.out
  clear HC4
  by_cases c10 : a1 > 6
  rotate_left
  ·rw [if_neg c10] at H
   have c10b0 : decide (6 < a1) = false := decide_eq_false c10
   clear c10
   (first | rw [c10b0] | (simp only [i64_w, i32_w];rw [c10b0]) | skip)
   have H' := Aside0.mk H
   clear H
   go_wp2
   go_meet
   case rel => exact ⟨_, (false), (t486), (t487), (by first | rfl | (simp;done) | (simp [*];done)), H', ⟨by first | omega | exact Nat.le_refl _⟩, ⟨by exact kP BK481.out⟩, ⟨by exact sS⟩, ⟨by exact kK⟩, ⟨by exact bB⟩⟩
  rw [if_pos c10] at H
  have c10b0 : decide (6 < a1) = true := decide_eq_true c10
  clear c10
  (first | rw [c10b0] | (simp only [i64_w, i32_w];rw [c10b0]) | skip)
  replace H := Option.bind_eq_some_iff.mp H
  obtain ⟨⟨t488, t489, t490⟩, A110, H⟩ := H
  replace H : (spec_l1Cur_someGraph.j0 k a1 t485 t488 s0_0 t489 t490) = some (r1, r2, r3, r4) := H
  have A11 := Aside0.mk A110
  clear A110
  have H' := Aside0.mk H
  clear H
  go_wp2_with (first | (go_at_call 130;(with_reducible refine (spec_l1Cur_one.calls g s0_0 t486 t487 4 t488 t489 t490 w0 _ ?side1 ?side2 A11.out).mono ?_);(case side1 => exact sS);(case side2 => exact bB);rintro e w12 ⟨rfl, hi, hb, hk⟩;have n0_ := aM (KeepBut.blk hk (g' := gb481) (o := .cells #[.int .i64 0, .slice none 0 0] 31 (0, 0)) (by exact kP BK481.out) NB481_0.out (by simp));have n1_ := aM (Kd.R_mono (Kd.R_keep (IsS91.apart (show IsS91 w0 _ g s0_0 t486 t487 from by exact sS) (by exact rP HO484.out) (by decide)) hk (fun _ h => h.2)) (fun _ h => h.1));have n2_ := aM (KeepBut.trans (by exact kK) hk (.inl rfl));have n3_ := aM (hb);have n4_ := aM (hi);clear BK481;clear HO484;clear HK;clear HB;clear HI0;have BK481 := n0_;have HO484 := n1_;have HK := n2_;have HB := n3_;have HI0 := n4_;clear n0_ n1_ n2_ n3_ n4_;(try clear hb);(try clear hb2);(try clear hk);(try clear hi)))
  go_meet
  case rel => exact ⟨_, (t488), (t489), (t490), (by first | rfl | (simp;done) | (simp [*];done)), H', ⟨by first | omega | exact Nat.le_refl _⟩, ⟨by exact kP BK481.out⟩, ⟨by exact sS⟩, ⟨by exact kK⟩, ⟨by exact bB⟩⟩
 case rest =>
  clear HC4
  try clear c1
  try clear p2
  try clear c7
  try clear c10
  try clear c10b0
  try clear c12
  obtain ⟨kq, x20_3, x1001_3, x1002_3, rfl, HA, HJ3, BK481, HI0, HK, HB⟩ := hcut
  cases kq with
  | zero => exact absurd HA.out (by simp [spec_l1Cur_someGraph.j0])
  | succ kj3 =>
   have H := HA.out
   clear HA
   simp only [spec_l1Cur_someGraph.j0] at H
   have HC13 := Aside0.mk H
   clear H
   go_upto_if 20 with (fail)
   go_cut [5] (fun v5 wc => ∃ (kq : Nat) (x5_12 : Int) (x1001_12 : Int) (x1002_12 : Int), v5 = .int .i64 x5_12 ∧ Aside0 (spec_l1Cur_someGraph.j1 kq a1 x5_12 s0_0 x1001_12 x1002_12 = some (r1, r2, r3, r4)) ∧ Aside0 (kq ≤ kj3) ∧ Aside0 (wc.heap[gb481]? = some (.cells #[.int .i64 0, (.slice none 0 0)] 31 (0, 0))) ∧ Aside0 (IsS91 w0 wc g s0_0 x1001_12 x1002_12) ∧ Aside0 (KeepBut w wc g none) ∧ Aside0 (Below w0.heap.size w0 wc))
   case first =>
    have H := HC13.out
    clear HC13
    by_cases c14 : x20_3 = true
    rotate_left
    ·replace c14 := Bool.eq_false_iff.mpr c14
     subst c14
     have H1 : (spec_l1Cur_someGraph.j1 kj3 a1 t485 s0_0 x1001_3 x1002_3) = some (r1, r2, r3, r4) := by rw [if_neg (show ¬ (false = true) by decide)] at H;exact H
     clear H
     have H := H1
     clear H1
     have H' := Aside0.mk H
     clear H
     go_wp2
     go_meet
     case rel => exact ⟨_, (t485), (x1001_3), (x1002_3), (by first | rfl | (simp;done) | (simp [*];done)), H', ⟨by have := HJ3.out;first | omega | exact Nat.le_refl _⟩, ⟨by exact kP BK481.out⟩, ⟨by exact sS⟩, ⟨by exact kK⟩, ⟨by exact bB⟩⟩
    subst c14
    have H1 : ((spec_l1Cur_pick.f s0_0 x1001_3 x1002_3 2).bind fun bt491 => (spec_l1Cur_someGraph.j1 kj3 a1 (wrap64 (7 + bt491.1)) s0_0 bt491.2.1 bt491.2.2)) = some (r1, r2, r3, r4) := by rw [if_pos rfl] at H;exact H
    clear H
    have H := H1
    clear H1
    replace H := Option.bind_eq_some_iff.mp H
    obtain ⟨⟨t491, t492, t493⟩, A150, H⟩ := H
    replace H : (spec_l1Cur_someGraph.j1 kj3 a1 (wrap64 (7 + t491)) s0_0 t492 t493) = some (r1, r2, r3, r4) := H
    have A15 := Aside0.mk A150
    clear A150
    have H' := Aside0.mk H
    clear H
    go_wp2_with (first | ((with_reducible refine gate_callee (f := 131) rfl ?_);refine goesL_ (some 22) rfl rfl Try.func131 (by kernel_rfl) rfl #[.pointer (some ⟨g, 0, none⟩), .int .i64 2] rfl mM ?_;(with_reducible refine (spec_l1Cur_pick.calls g s0_0 x1001_3 x1002_3 2 t491 t492 t493 w0 _ ?side1 ?side2 A15.out).mono ?_);(case side1 => exact sS);(case side2 => exact bB);rintro e w16 ⟨rfl, hi, hb, hk⟩;refine ⟨_, rfl, ?_⟩;have n0_ := aM (KeepBut.blk hk (g' := gb481) (o := .cells #[.int .i64 0, .slice none 0 0] 31 (0, 0)) (by exact kP BK481.out) NB481_0.out (by simp));have n1_ := aM (KeepBut.trans (by exact kK) hk (.inl rfl));have n2_ := aM (hb);have n3_ := aM (hi);clear BK481;clear HK;clear HB;clear HI0;have BK481 := n0_;have HK := n1_;have HB := n2_;have HI0 := n3_;clear n0_ n1_ n2_ n3_;(try clear hb);(try clear hb2);(try clear hk);(try clear hi)))
    go_meet
    case rel => exact ⟨_, (wrap64 (7 + t491)), (t492), (t493), (by first | rfl | (simp;done) | (simp [*];done)), H', ⟨by have := HJ3.out;first | omega | exact Nat.le_refl _⟩, ⟨by exact kP BK481.out⟩, ⟨by exact sS⟩, ⟨by exact kK⟩, ⟨by exact bB⟩⟩
   case rest =>
    clear HC13
    try clear c1
    try clear p2
    try clear p6
    try clear c7
    try clear c10
    try clear c10b0
    try clear c12
    try clear c13
    try clear c14
    try clear p2
    obtain ⟨kq, x5_12, x1001_12, x1002_12, rfl, HA, HJ12, BK481, HI0, HK, HB⟩ := hcut
    cases kq with
    | zero => exact absurd HA.out (by simp [spec_l1Cur_someGraph.j1])
    | succ kj12 =>
     have H := HA.out
     clear HA
     simp only [spec_l1Cur_someGraph.j1] at H
     replace H := Option.bind_eq_some_iff.mp H
     obtain ⟨t494, A170, H⟩ := H
     replace H : ((some (([] : List (S119)) : List (S119))).bind fun y495 => ((spec_l1Cur_pick.f s0_0 x1001_12 x1002_12 8).bind fun bt499 => (if bt499.1 = 0 then ((spec_l2Path.f kj12 t494).bind fun bt502 => ((spec_l1Cur_marred.f s0_0 bt499.2.1 bt499.2.2 bt502.1 bt502.2).bind fun bt506 => (some (bt506.1, bt506.2.1, bt506.2.2.1, bt506.2.2.2)))) else (if bt499.1 = 1 then (if t494 > 2 then ((spec_l2Cycle.f kj12 t494).bind fun bt512 => ((spec_l1Cur_marred.f s0_0 bt499.2.1 bt499.2.2 bt512.1 bt512.2).bind fun bt516 => (some (bt516.1, bt516.2.1, bt516.2.2.1, bt516.2.2.2)))) else ((spec_l1Cur_marred.f s0_0 bt499.2.1 bt499.2.2 t494 y495).bind fun bt522 => (some (bt522.1, bt522.2.1, bt522.2.2.1, bt522.2.2.2)))) else (if bt499.1 = 2 then ((spec_l2Complete.f kj12 t494).bind fun bt528 => ((spec_l1Cur_marred.f s0_0 bt499.2.1 bt499.2.2 bt528.1 bt528.2).bind fun bt532 => (some (bt532.1, bt532.2.1, bt532.2.2.1, bt532.2.2.2)))) else ((spec_l1Cur_among.f s0_0 bt499.2.1 bt499.2.2 (([3, 4, 6] : List Int))).bind fun bt541 => ((spec_l1Cur_one.f s0_0 bt541.2.1 bt541.2.2 6).bind fun bt544 => (spec_l1Cur_someGraph.l0 kj12 t494 bt541.1 bt544.1 0 s0_0 bt544.2.1 bt544.2.2 t494 y495)))))))) = some (r1, r2, r3, r4) := H
     have A17 := Aside0.mk A170
     clear A170
     obtain ⟨y495, hy495⟩ : ∃ y_ : List (S119), y_ = (([] : List (S119))) := ⟨_, rfl⟩
     replace H : ((spec_l1Cur_pick.f s0_0 x1001_12 x1002_12 8).bind fun bt499 => (if bt499.1 = 0 then ((spec_l2Path.f kj12 t494).bind fun bt502 => ((spec_l1Cur_marred.f s0_0 bt499.2.1 bt499.2.2 bt502.1 bt502.2).bind fun bt506 => (some (bt506.1, bt506.2.1, bt506.2.2.1, bt506.2.2.2)))) else (if bt499.1 = 1 then (if t494 > 2 then ((spec_l2Cycle.f kj12 t494).bind fun bt512 => ((spec_l1Cur_marred.f s0_0 bt499.2.1 bt499.2.2 bt512.1 bt512.2).bind fun bt516 => (some (bt516.1, bt516.2.1, bt516.2.2.1, bt516.2.2.2)))) else ((spec_l1Cur_marred.f s0_0 bt499.2.1 bt499.2.2 t494 y495).bind fun bt522 => (some (bt522.1, bt522.2.1, bt522.2.2.1, bt522.2.2.2)))) else (if bt499.1 = 2 then ((spec_l2Complete.f kj12 t494).bind fun bt528 => ((spec_l1Cur_marred.f s0_0 bt499.2.1 bt499.2.2 bt528.1 bt528.2).bind fun bt532 => (some (bt532.1, bt532.2.1, bt532.2.2.1, bt532.2.2.2)))) else ((spec_l1Cur_among.f s0_0 bt499.2.1 bt499.2.2 (([3, 4, 6] : List Int))).bind fun bt541 => ((spec_l1Cur_one.f s0_0 bt541.2.1 bt541.2.2 6).bind fun bt544 => (spec_l1Cur_someGraph.l0 kj12 t494 bt541.1 bt544.1 0 s0_0 bt544.2.1 bt544.2.2 t494 y495))))))) = some (r1, r2, r3, r4) := by first | (rw [hy495];with_reducible exact H) | (have H2_ := (Option.bind_some _ _).symm.trans H;rw [hy495];with_reducible exact H2_) | (have H2_ := (Option.bind_some _ _).symm.trans H;with_reducible exact H2_) | with_reducible exact H | (rw [hy495];exact H) | exact H
     have Ny495 := Aside0.mk hy495
     clear hy495
     replace H := Option.bind_eq_some_iff.mp H
     obtain ⟨⟨t499, t500, t501⟩, A180, H⟩ := H
     replace H : (if t499 = 0 then ((spec_l2Path.f kj12 t494).bind fun bt502 => ((spec_l1Cur_marred.f s0_0 t500 t501 bt502.1 bt502.2).bind fun bt506 => (some (bt506.1, bt506.2.1, bt506.2.2.1, bt506.2.2.2)))) else (if t499 = 1 then (if t494 > 2 then ((spec_l2Cycle.f kj12 t494).bind fun bt512 => ((spec_l1Cur_marred.f s0_0 t500 t501 bt512.1 bt512.2).bind fun bt516 => (some (bt516.1, bt516.2.1, bt516.2.2.1, bt516.2.2.2)))) else ((spec_l1Cur_marred.f s0_0 t500 t501 t494 y495).bind fun bt522 => (some (bt522.1, bt522.2.1, bt522.2.2.1, bt522.2.2.2)))) else (if t499 = 2 then ((spec_l2Complete.f kj12 t494).bind fun bt528 => ((spec_l1Cur_marred.f s0_0 t500 t501 bt528.1 bt528.2).bind fun bt532 => (some (bt532.1, bt532.2.1, bt532.2.2.1, bt532.2.2.2)))) else ((spec_l1Cur_among.f s0_0 t500 t501 (([3, 4, 6] : List Int))).bind fun bt541 => ((spec_l1Cur_one.f s0_0 bt541.2.1 bt541.2.2 6).bind fun bt544 => (spec_l1Cur_someGraph.l0 kj12 t494 bt541.1 bt544.1 0 s0_0 bt544.2.1 bt544.2.2 t494 y495)))))) = some (r1, r2, r3, r4) := H
     have A18 := Aside0.mk A180
     clear A180
     by_cases c19 : t499 = 0
     ·rw [if_pos c19] at H
      have c19b0 : (t499 == 0) = true := beq_iff_eq.mpr c19
      have c19b1 : (t499 != 0) = false := bne_eq_false_iff_eq.mpr c19
      clear c19
      replace H := Option.bind_eq_some_iff.mp H
      obtain ⟨⟨t502, t503⟩, A200, H⟩ := H
      replace H : ((spec_l1Cur_marred.f s0_0 t500 t501 t502 t503).bind fun bt506 => (some (bt506.1, bt506.2.1, bt506.2.2.1, bt506.2.2.2))) = some (r1, r2, r3, r4) := H
      have A20 := Aside0.mk A200
      clear A200
      replace H := Option.bind_eq_some_iff.mp H
      obtain ⟨⟨t506, t507, t510, t511⟩, A210, H⟩ := H
      replace H : (some (t506, t507, t510, t511)) = some (r1, r2, r3, r4) := H
      have A21 := Aside0.mk A210
      clear A210
      simp only [Option.some.injEq, Prod.mk.injEq] at H
      obtain ⟨rfl, rfl, rfl, rfl⟩ := H
      go_wp2_with (first | ((with_reducible refine gate_callee (f := 126) rfl ?_);refine goesL_ (some 26) rfl rfl Try.func126 (by kernel_rfl) rfl #[.int .i64 x5_12, .int .i64 a1] rfl mM ?_;(with_reducible refine (spec_l1Least.calls x5_12 a1 t494 _ A17.out).mono ?_);rintro e w' ⟨rfl, ⟨nd, rfl⟩⟩;refine ⟨_, rfl, ?_⟩;(try (rw [drewN_self wc];generalize hq_ : World.drewN wc _ = wc;have n0_ : Aside0 (wc.heap[gb481]? = some (.cells #[.int .i64 0, .slice none 0 0] 31 (0, 0))) := ⟨by rw [← hq_];exact (by exact kP BK481.out)⟩;have n1_ : Aside0 (IsS91 w0 wc g s0_0 x1001_12 x1002_12) := ⟨by rw [← hq_];exact (by exact sS)⟩;have n2_ : Aside0 (KeepBut w wc g none) := ⟨by rw [← hq_];exact (by exact kK)⟩;have n3_ : Aside0 (Below w0.heap.size w0 wc) := ⟨by rw [← hq_];exact (by exact bB)⟩;clear BK481 HI0 HK HB hq_;have BK481 := n0_;have HI0 := n1_;have HK := n2_;have HB := n3_;clear n0_ n1_ n2_ n3_))) | ((with_reducible refine gate_dst (N := 28) rfl ?_);refine Kd.R_lit k119 _ 119 ?hg (N := 28) ?hd (xs := ([] : List (S119))) (inner := []) (ok := fun _ => True) (okp := fun _ => True) ?hr ?hp (fun _ hk => hk) trivial (Below.refl _ _) (Nat.le_refl _) (by simp) ?_;(case hd => rfl);(case hg => rfl);(case hr => first | (go_simp;done) | (go_simp;rfl));(case hp => exact (Reps.none _ _));intro v496 w22 ho23 hb hg_ hnew_;clear hg_ hnew_;(first | rw [← Ny495.out] at ho23 | (simp only [Int.reduceToNat] at ho23;rw [← Ny495.out] at ho23));have n0_ := aM (Kd.R_lower ho23 (keep_size (w := w) (g := g) (row := none) (by exact kK)));have n1_ := aM (kB hb BK481.out);have n2_ := aM (IsS91.below (by repeat (first | (with_reducible first | exact HI0.out | apply IsS91.alloc | apply IsS91.drewN | apply IsS91.drew | apply IsS91.set_1 | apply IsS91.set_2 | refine IsS91.far ?_ NB0_481.out _) | exact HI0.out)) hb);have n3_ := aM (KeepBut.trans (by exact kK) (KeepBut.of_below hb g none) (.inl rfl));have n4_ := aM (below_step (by exact bB) hb);clear BK481;clear HI0;clear HK;clear HB;have HO497 := n0_;have BK481 := n1_;have HI0 := n2_;have HK := n3_;have HB := n4_;clear n0_ n1_ n2_ n3_ n4_;clear hb ho23;obtain ⟨Ao24, co24, eo24⟩ := Kd.R_slice HO497.out;subst eo24) | ((with_reducible refine gate_dst (N := 6) rfl ?_);refine box_event ?hg (N := 6) ?hd (cs := #[.int .i64 0, .slice none 0 0]) (t := 31) ?hr ?_;(case hd => rfl);(case hg => rfl);(case hr => first | (go_simp;done) | (go_simp;rfl));intro gb498 hg w25 hbox hb;have n0_ := aM (Kd.R_below (by exact rP HO497.out) hb);have n1_ := aM (kB hb BK481.out);have n2_ := aM (IsS91.below (by repeat (first | (with_reducible first | exact HI0.out | apply IsS91.alloc | apply IsS91.drewN | apply IsS91.drew | apply IsS91.set_1 | apply IsS91.set_2 | refine IsS91.far ?_ NB0_481.out _) | exact HI0.out)) hb);have n3_ := aM (KeepBut.trans (by exact kK) (KeepBut.of_below hb g none) (.inl rfl));have n4_ := aM (below_step (by exact bB) hb);have n5_ := aM (hbox);have n6_ := aM ((by rw [hg];exact (keep_size (w := w) (g := g) (row := none) (by exact kK)) : w.heap.size ≤ gb498));have n7_ := aM ((Nat.le_trans HW0.out (by rw [hg];exact (keep_size (w := w) (g := g) (row := none) (by exact kK)) : w.heap.size ≤ gb498) : w0.heap.size ≤ gb498));have n8_ := aM (nL hg (kP BK481.out));have n9_ := aM (nG hg (kP BK481.out));have n10_ := aM ((by rw [hg];exact Nat.ne_of_lt (IsS91.lt (show IsS91 w0 _ g s0_0 x1001_12 x1002_12 from by exact sS)) : g ≠ gb498));have n11_ := aM ((by rw [hg];exact Nat.ne_of_gt (IsS91.lt (show IsS91 w0 _ g s0_0 x1001_12 x1002_12 from by exact sS)) : gb498 ≠ g));clear HO497;clear BK481;clear HI0;clear HK;clear HB;have HO497 := n0_;have BK481 := n1_;have HI0 := n2_;have HK := n3_;have HB := n4_;have BK498 := n5_;have GW498 := n6_;have GE498 := n7_;have NB481_498 := n8_;have NB498_481 := n9_;have NB0_498 := n10_;have NB498_0 := n11_;clear n0_ n1_ n2_ n3_ n4_ n5_ n6_ n7_ n8_ n9_ n10_ n11_;clear hb hbox hg;have hnb26 := NB498_481.out;have hnc26 := NB481_498.out;have hnb27 := NB498_0.out;have hnc27 := NB0_498.out;have hcz28_0 := bC0 BK498.out;have hcz28_1 := bC1 BK498.out;have hfz28_0 := blk_frozen BK498.out 0;have hfz28_1 := blk_frozen BK498.out 1) | ((with_reducible refine gate_callee (f := 131) rfl ?_);refine goesL_ (some 31) rfl rfl Try.func131 (by kernel_rfl) rfl #[.pointer (some ⟨g, 0, none⟩), .int .i64 8] rfl mM ?_;(with_reducible refine (spec_l1Cur_pick.calls g s0_0 x1001_12 x1002_12 8 t499 t500 t501 w0 _ ?side1 ?side2 A18.out).mono ?_);(case side1 => exact sS);(case side2 => exact bB);rintro e w29 ⟨rfl, hi, hb, hk⟩;refine ⟨_, rfl, ?_⟩;have n0_ := aM (KeepBut.blk hk (g' := gb481) (o := .cells #[.int .i64 0, .slice none 0 0] 31 (0, 0)) (by refine kP ?_;refine blk_far ?_ NB481_498.out _;refine kP ?_;refine blk_far ?_ NB481_498.out _;exact kP BK481.out) NB481_0.out (by simp));have n1_ := aM (Kd.R_mono (Kd.R_keep (IsS91.apart (show IsS91 w0 _ g s0_0 x1001_12 x1002_12 from by exact sS) (by exact rP ((Kd.R_mono (Kd.R_far (p := ⟨gb498, 1, none⟩) (Kd.R_far (p := ⟨gb498, 0, none⟩) (Kd.R_types HO497.out BK498.out (by decide)) (fun _ hk => hk.2) (.int .i64 t494)) (fun _ hk => hk.2) (.slice Ao24 y495.length co24)) (fun _ h_ => h_.1)))) (by decide)) hk (fun _ h => h.2)) (fun _ h => h.1));have n2_ := aM (KeepBut.blk hk (g' := gb498) (o := .cells #[.int .i64 t494, .slice Ao24 y495.length co24] 31 (0, 0)) (by refine kP ?_;refine blk_put (cs := #[.int .i64 t494, .slice none 0 0]) ?_ 1 _ rfl;refine kP ?_;refine blk_put (cs := #[.int .i64 0, .slice none 0 0]) ?_ 0 _ rfl;exact kP BK498.out) NB498_0.out (by simp));have n3_ := aM (KeepBut.trans (by exact kK) hk (.inl rfl));have n4_ := aM (hb);have n5_ := aM (hi);clear BK481;clear HO497;clear BK498;clear HK;clear HB;clear HI0;have BK481 := n0_;have HO497 := n1_;have BK498 := n2_;have HK := n3_;have HB := n4_;have HI0 := n5_;clear n0_ n1_ n2_ n3_ n4_ n5_;(try clear hb);(try clear hb2);(try clear hk);(try clear hi)) | ((with_reducible refine gate_callee (f := 132) rfl ?_);refine goesL_ (some 87) rfl rfl Try.func132 (by kernel_rfl) rfl #[.int .i64 t494] rfl mM ?_;(with_reducible refine (spec_l2Path.calls kj12 t494 t502 t503 _ A20.out).mono ?_);rintro e w30 ⟨v504, rfl, ho0, hb⟩;refine ⟨_, rfl, ?_⟩;have n0_ := aM (Kd.R_elder' (by exact rP HO497.out) (Kd.R_base ho0) hb);have n1_ := aM (Kd.R_lower (Kd.R_new' ho0 (Kd.R_lt (by exact rP HO497.out))) (keep_size (w := w) (g := g) (row := none) (by exact kK)));have n2_ := aM (kB hb BK481.out);have n3_ := aM (IsS91.below (by repeat (first | (with_reducible first | exact HI0.out | apply IsS91.alloc | apply IsS91.drewN | apply IsS91.drew | apply IsS91.set_1 | apply IsS91.set_2 | refine IsS91.far ?_ NB0_481.out _ | refine IsS91.far ?_ NB0_498.out _) | exact HI0.out)) hb);have n4_ := aM (kB hb BK498.out);have n5_ := aM (KeepBut.trans (by exact kK) (KeepBut.of_below hb g none) (.inl rfl));have n6_ := aM (below_step (by exact bB) hb);clear HO497;clear BK481;clear HI0;clear BK498;clear HK;clear HB;have HO497 := n0_;have HO505 := n1_;have BK481 := n2_;have HI0 := n3_;have BK498 := n4_;have HK := n5_;have HB := n6_;clear n0_ n1_ n2_ n3_ n4_ n5_ n6_;(try clear hb);(try clear hb2);(try clear hk);(try clear hi);(try clear ho0);have hcz31_0 := bC0 BK498.out;have hcz31_1 := bC1 BK498.out;have hfz31_0 := blk_frozen BK498.out 0;have hfz31_1 := blk_frozen BK498.out 1;obtain ⟨Ao32, co32, eo32⟩ := Kd.R_slice HO505.out;subst eo32) | ((with_reducible refine gate_store (t := 31) (p := 6) rfl ?_);refine store_event (t := 31) (p := 6) (v := ?vo_w33) (w1 := ((w30.setCell ⟨gb498, 0, none⟩ (.int .i64 t502)).setCell ⟨gb498, 1, none⟩ (.slice Ao32 t503.length co32))) ?hg ?ho ?hn ?hr ?_;(case ho => rfl);(case hg => rfl);(case hn => rfl);(case hr => first | (go_simp;done) | (go_simp;rfl));intro w33 hw;have n0_ : Aside0 (Kd.R k119 119 w33 w.heap.size (fun k_ => some k_ ≠ (.slice Ao32 t503.length co32 : Value).ownBlock) (.slice Ao24 y495.length co24) y495) := ⟨(by rw [hw];exact (by refine rP ?_;exact Kd.R_mono (Kd.R_far (p := ⟨gb498, 1, none⟩) (Kd.R_far (p := ⟨gb498, 0, none⟩) (Kd.R_types HO497.out BK498.out (by decide)) (fun _ hk => hk.2) (.int .i64 t502)) (fun _ hk => hk.2) (.slice Ao32 t503.length co32)) (fun _ hk => hk.1.2)))⟩;have n1_ : Aside0 (Kd.R k119 119 w33 w.heap.size (fun k_ => some k_ ≠ (.slice Ao24 y495.length co24 : Value).ownBlock) (.slice Ao32 t503.length co32) t503) := ⟨(by rw [hw];exact (by refine rP ?_;exact Kd.R_mono (Kd.R_far (p := ⟨gb498, 1, none⟩) (Kd.R_far (p := ⟨gb498, 0, none⟩) (Kd.R_types HO505.out BK498.out (by decide)) (fun _ hk => hk.2) (.int .i64 t502)) (fun _ hk => hk.2) (.slice Ao32 t503.length co32)) (fun _ hk => hk.1.2)))⟩;have n2_ : Aside0 (w33.heap[gb481]? = some (.cells #[.int .i64 0, .slice none 0 0] 31 (0, 0))) := ⟨(by rw [hw];exact (by refine kP ?_;refine blk_far ?_ NB481_498.out _;refine kP ?_;refine blk_far ?_ NB481_498.out _;exact kP BK481.out))⟩;have n3_ : Aside0 (w33.heap[gb498]? = some (.cells #[.int .i64 t502, .slice Ao32 t503.length co32] 31 (0, 0))) := ⟨(by rw [hw];exact (by refine kP ?_;refine blk_put (cs := #[.int .i64 t502, .slice Ao24 y495.length co24]) ?_ 1 _ rfl;refine kP ?_;refine blk_put (cs := #[.int .i64 t494, .slice Ao24 y495.length co24]) ?_ 0 _ rfl;exact kP BK498.out))⟩;have n4_ : Aside0 (IsS91 w0 w33 g s0_0 t500 t501) := ⟨(by rw [hw];exact (by exact sS))⟩;have n5_ : Aside0 (KeepBut w w33 g none) := ⟨(by rw [hw];exact (by exact kK))⟩;have n6_ : Aside0 (Below w0.heap.size w0 w33) := ⟨(by rw [hw];exact (by exact bB))⟩;clear hw;clear HO497;clear HO505;clear BK481;clear BK498;clear HI0;clear HK;clear HB;have HO497 := n0_;have HO505 := n1_;have BK481 := n2_;have BK498 := n3_;have HI0 := n4_;have HK := n5_;have HB := n6_;clear n0_ n1_ n2_ n3_ n4_ n5_ n6_;have hcz34_0 := bC0 BK498.out;have hcz34_1 := bC1 BK498.out;have hfz34_0 := blk_frozen BK498.out 0;have hfz34_1 := blk_frozen BK498.out 1) | ((with_reducible refine gate_callee (f := 138) rfl ?_);refine goesL_ (some 100) rfl rfl Try.func138 (by kernel_rfl) rfl #[.pointer (some ⟨g, 0, none⟩), .agg #[.int .i64 t502, .slice Ao32 t503.length co32]] rfl mM ?_;(with_reducible refine (spec_l1Cur_marred.calls g s0_0 t500 t501 t502 (fun k_ => some k_ = (.slice Ao32 t503.length co32 : Value).ownBlock) (.slice Ao32 t503.length co32) t503 t506 t507 t510 t511 w0 _ ?side1 ?side2 ?side3 A21.out).mono ?_);(case side1 => exact sS);(case side2 => exact bB);(case side3 => exact Kd.R_lower (Kd.R_tight rfl HO505.out) HL.out);rintro e w35 ⟨v508, rfl, ho0, hi, hb, hkp⟩;refine ⟨_, rfl, ?_⟩;have n0_ := aM (blk_kept (by exact kP BK481.out) hkp (fun hs_ => Or.elim hs_ (fun hs_ => (fun e_ => (Kd.R_ne HO505.out BK481.out (by decide)) e_) hs_) (fun e_ => NB481_0.out e_)));have n1_ := aM (hi);have n2_ := aM (Kd.R_mono (ok' := fun k_ => some k_ ≠ (v508 : Value).ownBlock) (Kd.R_keptB ((IsS91.apart HI0.out HO497.out (by decide))) hkp (fun k_ hk_ hs_ => Or.elim hs_ (fun hs_ => (hk_.1) hs_) (fun e_ => (hk_.2) e_))) (fun k_ hk_ => fun e_ => Or.elim (ho0.1 k_ e_.symm) (fun hs_ => hk_.2.1 (.inl hs_)) (fun hn_ => Nat.not_le.2 hk_.2.2 hn_)));have n3_ := aM (blk_kept BK498.out hkp (fun hs_ => Or.elim hs_ (fun hs_ => (fun e_ => (Kd.R_ne HO505.out BK498.out (by decide)) e_) hs_) (fun e_ => NB498_0.out e_)));have n4_ := aM (Kd.R_mono (ok' := fun k_ => some k_ ≠ (.slice Ao24 y495.length co24 : Value).ownBlock) (Kd.R_raise (d := k119) (b := w0.heap.size) (b' := w.heap.size) (fun _ _ _ _ h_ => h_) ho0 (fun k_ e_ => Or.elim (ho0.1 k_ e_) (fun hs_ => (fun e_ => Kd.R_base HO505.out k_ e_.symm) hs_) (fun hn_ => Nat.le_trans (keep_size (w := w) (g := g) (row := none) (by exact kK)) hn_))) (fun k_ hk_ => Or.elim hk_ (fun hs_ => fun e_ => ((((IsS91.apart HI0.out HO497.out (by decide))).1 k_ e_.symm).1) hs_) (fun hn_ => (Kd.fresh' (Kd.R_lt (by exact rP HO497.out)) k_ hn_))));have n5_ := aM (Kept.keepG (by exact kK) hkp (fun k_ hs_ => Or.elim hs_ (fun hs_ => (fun e_ => .inr (Kd.R_base HO505.out k_ e_.symm)) hs_) (fun e_ => .inl e_)));have n6_ := aM (hb);clear BK481;clear HI0;clear HO497;clear BK498;clear HK;clear HB;clear HO505;have BK481 := n0_;have HI0 := n1_;have HO497 := n2_;have BK498 := n3_;have HO509 := n4_;have HK := n5_;have HB := n6_;clear n0_ n1_ n2_ n3_ n4_ n5_ n6_;(try clear hb);(try clear hkp);(try clear ho0);have hnb36 := NB481_0.out;have hnc36 := NB0_481.out;have hcz37_0 := bC0 BK481.out;have hcz37_1 := bC1 BK481.out;have hfz37_0 := blk_frozen BK481.out 0;have hfz37_1 := blk_frozen BK481.out 1;obtain ⟨Ao38, co38, eo38⟩ := Kd.R_slice HO509.out;subst eo38))
      refine bodyPost_ret (results_cell_row rfl _ _ gb481 31 #[.int .i64 t506, .slice Ao38 t507.length co38] (0, 0) _ rfl (by refine kP ?_;refine blk_put (cs := #[.int .i64 t506, .slice none 0 0]) ?_ 1 _ rfl;refine kP ?_;refine blk_put (cs := #[.int .i64 0, .slice none 0 0]) ?_ 0 _ rfl;exact kP BK481.out) Try.underlying31 rfl (by kernel_rfl)) rfl ?_
      exact ⟨_, by first | rfl | (simp [errW_none, errW_some] <;> rfl) | (simp [*, errW_none, errW_some] <;> rfl), by refine rP ?_;exact Kd.R_mono (Kd.R_far (p := ⟨gb481, 1, none⟩) (Kd.R_far (p := ⟨gb481, 0, none⟩) (Kd.R_types HO509.out BK481.out (by decide)) (fun _ hk => hk.2) (.int .i64 t506)) (fun _ hk => hk.2) (.slice Ao38 t507.length co38)) (fun _ hk => trivial), by exact sS, by exact bB, by exact kK⟩
     rw [if_neg c19] at H
     have c19b0 : (t499 == 0) = false := beq_eq_false_iff_ne.mpr c19
     have c19b1 : (t499 != 0) = true := bne_iff_ne.mpr c19
     by_cases c39 : t499 = 1
     ·rw [if_pos c39] at H
      have c39b0 : (t499 == 1) = true := beq_iff_eq.mpr c39
      have c39b1 : (t499 != 1) = false := bne_eq_false_iff_eq.mpr c39
      clear c39
      by_cases c40 : t494 > 2
      rotate_left
      ·rw [if_neg c40] at H
       have c40b0 : decide (2 < t494) = false := decide_eq_false c40
       clear c40
       replace H := Option.bind_eq_some_iff.mp H
       obtain ⟨⟨t522, t523, t526, t527⟩, A600, H⟩ := H
       replace H : (some (t522, t523, t526, t527)) = some (r1, r2, r3, r4) := H
       have A60 := Aside0.mk A600
       clear A600
       simp only [Option.some.injEq, Prod.mk.injEq] at H
       obtain ⟨rfl, rfl, rfl, rfl⟩ := H
       go_wp2_with (first | ((with_reducible refine gate_callee (f := 126) rfl ?_);refine goesL_ (some 26) rfl rfl Try.func126 (by kernel_rfl) rfl #[.int .i64 x5_12, .int .i64 a1] rfl mM ?_;(with_reducible refine (spec_l1Least.calls x5_12 a1 t494 _ A17.out).mono ?_);rintro e w' ⟨rfl, ⟨nd, rfl⟩⟩;refine ⟨_, rfl, ?_⟩;(try (rw [drewN_self wc];generalize hq_ : World.drewN wc _ = wc;have n0_ : Aside0 (wc.heap[gb481]? = some (.cells #[.int .i64 0, .slice none 0 0] 31 (0, 0))) := ⟨by rw [← hq_];exact (by exact kP BK481.out)⟩;have n1_ : Aside0 (IsS91 w0 wc g s0_0 x1001_12 x1002_12) := ⟨by rw [← hq_];exact (by exact sS)⟩;have n2_ : Aside0 (KeepBut w wc g none) := ⟨by rw [← hq_];exact (by exact kK)⟩;have n3_ : Aside0 (Below w0.heap.size w0 wc) := ⟨by rw [← hq_];exact (by exact bB)⟩;clear BK481 HI0 HK HB hq_;have BK481 := n0_;have HI0 := n1_;have HK := n2_;have HB := n3_;clear n0_ n1_ n2_ n3_))) | ((with_reducible refine gate_dst (N := 28) rfl ?_);refine Kd.R_lit k119 _ 119 ?hg (N := 28) ?hd (xs := ([] : List (S119))) (inner := []) (ok := fun _ => True) (okp := fun _ => True) ?hr ?hp (fun _ hk => hk) trivial (Below.refl _ _) (Nat.le_refl _) (by simp) ?_;(case hd => rfl);(case hg => rfl);(case hr => first | (go_simp;done) | (go_simp;rfl));(case hp => exact (Reps.none _ _));intro v496 w61 ho62 hb hg_ hnew_;clear hg_ hnew_;(first | rw [← Ny495.out] at ho62 | (simp only [Int.reduceToNat] at ho62;rw [← Ny495.out] at ho62));have n0_ := aM (Kd.R_lower ho62 (keep_size (w := w) (g := g) (row := none) (by exact kK)));have n1_ := aM (kB hb BK481.out);have n2_ := aM (IsS91.below (by repeat (first | (with_reducible first | exact HI0.out | apply IsS91.alloc | apply IsS91.drewN | apply IsS91.drew | apply IsS91.set_1 | apply IsS91.set_2 | refine IsS91.far ?_ NB0_481.out _) | exact HI0.out)) hb);have n3_ := aM (KeepBut.trans (by exact kK) (KeepBut.of_below hb g none) (.inl rfl));have n4_ := aM (below_step (by exact bB) hb);clear BK481;clear HI0;clear HK;clear HB;have HO497 := n0_;have BK481 := n1_;have HI0 := n2_;have HK := n3_;have HB := n4_;clear n0_ n1_ n2_ n3_ n4_;clear hb ho62;obtain ⟨Ao63, co63, eo63⟩ := Kd.R_slice HO497.out;subst eo63) | ((with_reducible refine gate_dst (N := 6) rfl ?_);refine box_event ?hg (N := 6) ?hd (cs := #[.int .i64 0, .slice none 0 0]) (t := 31) ?hr ?_;(case hd => rfl);(case hg => rfl);(case hr => first | (go_simp;done) | (go_simp;rfl));intro gb498 hg w64 hbox hb;have n0_ := aM (Kd.R_below (by exact rP HO497.out) hb);have n1_ := aM (kB hb BK481.out);have n2_ := aM (IsS91.below (by repeat (first | (with_reducible first | exact HI0.out | apply IsS91.alloc | apply IsS91.drewN | apply IsS91.drew | apply IsS91.set_1 | apply IsS91.set_2 | refine IsS91.far ?_ NB0_481.out _) | exact HI0.out)) hb);have n3_ := aM (KeepBut.trans (by exact kK) (KeepBut.of_below hb g none) (.inl rfl));have n4_ := aM (below_step (by exact bB) hb);have n5_ := aM (hbox);have n6_ := aM ((by rw [hg];exact (keep_size (w := w) (g := g) (row := none) (by exact kK)) : w.heap.size ≤ gb498));have n7_ := aM ((Nat.le_trans HW0.out (by rw [hg];exact (keep_size (w := w) (g := g) (row := none) (by exact kK)) : w.heap.size ≤ gb498) : w0.heap.size ≤ gb498));have n8_ := aM (nL hg (kP BK481.out));have n9_ := aM (nG hg (kP BK481.out));have n10_ := aM ((by rw [hg];exact Nat.ne_of_lt (IsS91.lt (show IsS91 w0 _ g s0_0 x1001_12 x1002_12 from by exact sS)) : g ≠ gb498));have n11_ := aM ((by rw [hg];exact Nat.ne_of_gt (IsS91.lt (show IsS91 w0 _ g s0_0 x1001_12 x1002_12 from by exact sS)) : gb498 ≠ g));clear HO497;clear BK481;clear HI0;clear HK;clear HB;have HO497 := n0_;have BK481 := n1_;have HI0 := n2_;have HK := n3_;have HB := n4_;have BK498 := n5_;have GW498 := n6_;have GE498 := n7_;have NB481_498 := n8_;have NB498_481 := n9_;have NB0_498 := n10_;have NB498_0 := n11_;clear n0_ n1_ n2_ n3_ n4_ n5_ n6_ n7_ n8_ n9_ n10_ n11_;clear hb hbox hg;have hnb65 := NB498_481.out;have hnc65 := NB481_498.out;have hnb66 := NB498_0.out;have hnc66 := NB0_498.out;have hcz67_0 := bC0 BK498.out;have hcz67_1 := bC1 BK498.out;have hfz67_0 := blk_frozen BK498.out 0;have hfz67_1 := blk_frozen BK498.out 1) | ((with_reducible refine gate_callee (f := 131) rfl ?_);refine goesL_ (some 31) rfl rfl Try.func131 (by kernel_rfl) rfl #[.pointer (some ⟨g, 0, none⟩), .int .i64 8] rfl mM ?_;(with_reducible refine (spec_l1Cur_pick.calls g s0_0 x1001_12 x1002_12 8 t499 t500 t501 w0 _ ?side1 ?side2 A18.out).mono ?_);(case side1 => exact sS);(case side2 => exact bB);rintro e w68 ⟨rfl, hi, hb, hk⟩;refine ⟨_, rfl, ?_⟩;have n0_ := aM (KeepBut.blk hk (g' := gb481) (o := .cells #[.int .i64 0, .slice none 0 0] 31 (0, 0)) (by refine kP ?_;refine blk_far ?_ NB481_498.out _;refine kP ?_;refine blk_far ?_ NB481_498.out _;exact kP BK481.out) NB481_0.out (by simp));have n1_ := aM (Kd.R_mono (Kd.R_keep (IsS91.apart (show IsS91 w0 _ g s0_0 x1001_12 x1002_12 from by exact sS) (by exact rP ((Kd.R_mono (Kd.R_far (p := ⟨gb498, 1, none⟩) (Kd.R_far (p := ⟨gb498, 0, none⟩) (Kd.R_types HO497.out BK498.out (by decide)) (fun _ hk => hk.2) (.int .i64 t494)) (fun _ hk => hk.2) (.slice Ao63 y495.length co63)) (fun _ h_ => h_.1)))) (by decide)) hk (fun _ h => h.2)) (fun _ h => h.1));have n2_ := aM (KeepBut.blk hk (g' := gb498) (o := .cells #[.int .i64 t494, .slice Ao63 y495.length co63] 31 (0, 0)) (by refine kP ?_;refine blk_put (cs := #[.int .i64 t494, .slice none 0 0]) ?_ 1 _ rfl;refine kP ?_;refine blk_put (cs := #[.int .i64 0, .slice none 0 0]) ?_ 0 _ rfl;exact kP BK498.out) NB498_0.out (by simp));have n3_ := aM (KeepBut.trans (by exact kK) hk (.inl rfl));have n4_ := aM (hb);have n5_ := aM (hi);clear BK481;clear HO497;clear BK498;clear HK;clear HB;clear HI0;have BK481 := n0_;have HO497 := n1_;have BK498 := n2_;have HK := n3_;have HB := n4_;have HI0 := n5_;clear n0_ n1_ n2_ n3_ n4_ n5_;(try clear hb);(try clear hb2);(try clear hk);(try clear hi);have hcz69_0 := bC0 BK498.out;have hcz69_1 := bC1 BK498.out;have hfz69_0 := blk_frozen BK498.out 0;have hfz69_1 := blk_frozen BK498.out 1) | ((with_reducible refine gate_callee (f := 138) rfl ?_);refine goesL_ (some 100) rfl rfl Try.func138 (by kernel_rfl) rfl #[.pointer (some ⟨g, 0, none⟩), .agg #[.int .i64 t494, .slice Ao63 y495.length co63]] rfl mM ?_;(with_reducible refine (spec_l1Cur_marred.calls g s0_0 t500 t501 t494 (fun k_ => some k_ = (.slice Ao63 y495.length co63 : Value).ownBlock) (.slice Ao63 y495.length co63) y495 t522 t523 t526 t527 w0 _ ?side1 ?side2 ?side3 A60.out).mono ?_);(case side1 => exact sS);(case side2 => exact bB);(case side3 => exact Kd.R_lower (Kd.R_tight rfl HO497.out) HL.out);rintro e w70 ⟨v524, rfl, ho0, hi, hb, hkp⟩;refine ⟨_, rfl, ?_⟩;have n0_ := aM (blk_kept (by exact kP BK481.out) hkp (fun hs_ => Or.elim hs_ (fun hs_ => (fun e_ => (Kd.R_ne HO497.out BK481.out (by decide)) e_) hs_) (fun e_ => NB481_0.out e_)));have n1_ := aM (hi);have n2_ := aM (blk_kept (by exact kP BK498.out) hkp (fun hs_ => Or.elim hs_ (fun hs_ => (fun e_ => (Kd.R_ne HO497.out BK498.out (by decide)) e_) hs_) (fun e_ => NB498_0.out e_)));have n3_ := aM (Kd.R_mono (ok' := fun k_ => True) (Kd.R_raise (d := k119) (b := w0.heap.size) (b' := w.heap.size) (fun _ _ _ _ h_ => h_) ho0 (fun k_ e_ => Or.elim (ho0.1 k_ e_) (fun hs_ => (fun e_ => Kd.R_base HO497.out k_ e_.symm) hs_) (fun hn_ => Nat.le_trans (keep_size (w := w) (g := g) (row := none) (by exact kK)) hn_))) (fun k_ hk_ => trivial));have n4_ := aM (Kept.keepG (by exact kK) hkp (fun k_ hs_ => Or.elim hs_ (fun hs_ => (fun e_ => .inr (Kd.R_base HO497.out k_ e_.symm)) hs_) (fun e_ => .inl e_)));have n5_ := aM (hb);clear BK481;clear HI0;clear BK498;clear HK;clear HB;clear HO497;have BK481 := n0_;have HI0 := n1_;have BK498 := n2_;have HO525 := n3_;have HK := n4_;have HB := n5_;clear n0_ n1_ n2_ n3_ n4_ n5_;(try clear hb);(try clear hkp);(try clear ho0);have hnb71 := NB481_0.out;have hnc71 := NB0_481.out;have hcz72_0 := bC0 BK481.out;have hcz72_1 := bC1 BK481.out;have hfz72_0 := blk_frozen BK481.out 0;have hfz72_1 := blk_frozen BK481.out 1;obtain ⟨Ao73, co73, eo73⟩ := Kd.R_slice HO525.out;subst eo73))
       refine bodyPost_ret (results_cell_row rfl _ _ gb481 31 #[.int .i64 t522, .slice Ao73 t523.length co73] (0, 0) _ rfl (by refine kP ?_;refine blk_put (cs := #[.int .i64 t522, .slice none 0 0]) ?_ 1 _ rfl;refine kP ?_;refine blk_put (cs := #[.int .i64 0, .slice none 0 0]) ?_ 0 _ rfl;exact kP BK481.out) Try.underlying31 rfl (by kernel_rfl)) rfl ?_
       exact ⟨_, by first | rfl | (simp [errW_none, errW_some] <;> rfl) | (simp [*, errW_none, errW_some] <;> rfl), by refine rP ?_;exact Kd.R_mono (Kd.R_far (p := ⟨gb481, 1, none⟩) (Kd.R_far (p := ⟨gb481, 0, none⟩) (Kd.R_types HO525.out BK481.out (by decide)) (fun _ hk => hk.2) (.int .i64 t522)) (fun _ hk => hk.2) (.slice Ao73 t523.length co73)) (fun _ hk => trivial), by exact sS, by exact bB, by exact kK⟩
      rw [if_pos c40] at H
      have c40b0 : decide (2 < t494) = true := decide_eq_true c40
      clear c40
      replace H := Option.bind_eq_some_iff.mp H
      obtain ⟨⟨t512, t513⟩, A410, H⟩ := H
      replace H : ((spec_l1Cur_marred.f s0_0 t500 t501 t512 t513).bind fun bt516 => (some (bt516.1, bt516.2.1, bt516.2.2.1, bt516.2.2.2))) = some (r1, r2, r3, r4) := H
      have A41 := Aside0.mk A410
      clear A410
      replace H := Option.bind_eq_some_iff.mp H
      obtain ⟨⟨t516, t517, t520, t521⟩, A420, H⟩ := H
      replace H : (some (t516, t517, t520, t521)) = some (r1, r2, r3, r4) := H
      have A42 := Aside0.mk A420
      clear A420
      simp only [Option.some.injEq, Prod.mk.injEq] at H
      obtain ⟨rfl, rfl, rfl, rfl⟩ := H
      go_wp2_with (first | ((with_reducible refine gate_callee (f := 126) rfl ?_);refine goesL_ (some 26) rfl rfl Try.func126 (by kernel_rfl) rfl #[.int .i64 x5_12, .int .i64 a1] rfl mM ?_;(with_reducible refine (spec_l1Least.calls x5_12 a1 t494 _ A17.out).mono ?_);rintro e w' ⟨rfl, ⟨nd, rfl⟩⟩;refine ⟨_, rfl, ?_⟩;(try (rw [drewN_self wc];generalize hq_ : World.drewN wc _ = wc;have n0_ : Aside0 (wc.heap[gb481]? = some (.cells #[.int .i64 0, .slice none 0 0] 31 (0, 0))) := ⟨by rw [← hq_];exact (by exact kP BK481.out)⟩;have n1_ : Aside0 (IsS91 w0 wc g s0_0 x1001_12 x1002_12) := ⟨by rw [← hq_];exact (by exact sS)⟩;have n2_ : Aside0 (KeepBut w wc g none) := ⟨by rw [← hq_];exact (by exact kK)⟩;have n3_ : Aside0 (Below w0.heap.size w0 wc) := ⟨by rw [← hq_];exact (by exact bB)⟩;clear BK481 HI0 HK HB hq_;have BK481 := n0_;have HI0 := n1_;have HK := n2_;have HB := n3_;clear n0_ n1_ n2_ n3_))) | ((with_reducible refine gate_dst (N := 28) rfl ?_);refine Kd.R_lit k119 _ 119 ?hg (N := 28) ?hd (xs := ([] : List (S119))) (inner := []) (ok := fun _ => True) (okp := fun _ => True) ?hr ?hp (fun _ hk => hk) trivial (Below.refl _ _) (Nat.le_refl _) (by simp) ?_;(case hd => rfl);(case hg => rfl);(case hr => first | (go_simp;done) | (go_simp;rfl));(case hp => exact (Reps.none _ _));intro v496 w43 ho44 hb hg_ hnew_;clear hg_ hnew_;(first | rw [← Ny495.out] at ho44 | (simp only [Int.reduceToNat] at ho44;rw [← Ny495.out] at ho44));have n0_ := aM (Kd.R_lower ho44 (keep_size (w := w) (g := g) (row := none) (by exact kK)));have n1_ := aM (kB hb BK481.out);have n2_ := aM (IsS91.below (by repeat (first | (with_reducible first | exact HI0.out | apply IsS91.alloc | apply IsS91.drewN | apply IsS91.drew | apply IsS91.set_1 | apply IsS91.set_2 | refine IsS91.far ?_ NB0_481.out _) | exact HI0.out)) hb);have n3_ := aM (KeepBut.trans (by exact kK) (KeepBut.of_below hb g none) (.inl rfl));have n4_ := aM (below_step (by exact bB) hb);clear BK481;clear HI0;clear HK;clear HB;have HO497 := n0_;have BK481 := n1_;have HI0 := n2_;have HK := n3_;have HB := n4_;clear n0_ n1_ n2_ n3_ n4_;clear hb ho44;obtain ⟨Ao45, co45, eo45⟩ := Kd.R_slice HO497.out;subst eo45) | ((with_reducible refine gate_dst (N := 6) rfl ?_);refine box_event ?hg (N := 6) ?hd (cs := #[.int .i64 0, .slice none 0 0]) (t := 31) ?hr ?_;(case hd => rfl);(case hg => rfl);(case hr => first | (go_simp;done) | (go_simp;rfl));intro gb498 hg w46 hbox hb;have n0_ := aM (Kd.R_below (by exact rP HO497.out) hb);have n1_ := aM (kB hb BK481.out);have n2_ := aM (IsS91.below (by repeat (first | (with_reducible first | exact HI0.out | apply IsS91.alloc | apply IsS91.drewN | apply IsS91.drew | apply IsS91.set_1 | apply IsS91.set_2 | refine IsS91.far ?_ NB0_481.out _) | exact HI0.out)) hb);have n3_ := aM (KeepBut.trans (by exact kK) (KeepBut.of_below hb g none) (.inl rfl));have n4_ := aM (below_step (by exact bB) hb);have n5_ := aM (hbox);have n6_ := aM ((by rw [hg];exact (keep_size (w := w) (g := g) (row := none) (by exact kK)) : w.heap.size ≤ gb498));have n7_ := aM ((Nat.le_trans HW0.out (by rw [hg];exact (keep_size (w := w) (g := g) (row := none) (by exact kK)) : w.heap.size ≤ gb498) : w0.heap.size ≤ gb498));have n8_ := aM (nL hg (kP BK481.out));have n9_ := aM (nG hg (kP BK481.out));have n10_ := aM ((by rw [hg];exact Nat.ne_of_lt (IsS91.lt (show IsS91 w0 _ g s0_0 x1001_12 x1002_12 from by exact sS)) : g ≠ gb498));have n11_ := aM ((by rw [hg];exact Nat.ne_of_gt (IsS91.lt (show IsS91 w0 _ g s0_0 x1001_12 x1002_12 from by exact sS)) : gb498 ≠ g));clear HO497;clear BK481;clear HI0;clear HK;clear HB;have HO497 := n0_;have BK481 := n1_;have HI0 := n2_;have HK := n3_;have HB := n4_;have BK498 := n5_;have GW498 := n6_;have GE498 := n7_;have NB481_498 := n8_;have NB498_481 := n9_;have NB0_498 := n10_;have NB498_0 := n11_;clear n0_ n1_ n2_ n3_ n4_ n5_ n6_ n7_ n8_ n9_ n10_ n11_;clear hb hbox hg;have hnb47 := NB498_481.out;have hnc47 := NB481_498.out;have hnb48 := NB498_0.out;have hnc48 := NB0_498.out;have hcz49_0 := bC0 BK498.out;have hcz49_1 := bC1 BK498.out;have hfz49_0 := blk_frozen BK498.out 0;have hfz49_1 := blk_frozen BK498.out 1) | ((with_reducible refine gate_callee (f := 131) rfl ?_);refine goesL_ (some 31) rfl rfl Try.func131 (by kernel_rfl) rfl #[.pointer (some ⟨g, 0, none⟩), .int .i64 8] rfl mM ?_;(with_reducible refine (spec_l1Cur_pick.calls g s0_0 x1001_12 x1002_12 8 t499 t500 t501 w0 _ ?side1 ?side2 A18.out).mono ?_);(case side1 => exact sS);(case side2 => exact bB);rintro e w50 ⟨rfl, hi, hb, hk⟩;refine ⟨_, rfl, ?_⟩;have n0_ := aM (KeepBut.blk hk (g' := gb481) (o := .cells #[.int .i64 0, .slice none 0 0] 31 (0, 0)) (by refine kP ?_;refine blk_far ?_ NB481_498.out _;refine kP ?_;refine blk_far ?_ NB481_498.out _;exact kP BK481.out) NB481_0.out (by simp));have n1_ := aM (Kd.R_mono (Kd.R_keep (IsS91.apart (show IsS91 w0 _ g s0_0 x1001_12 x1002_12 from by exact sS) (by exact rP ((Kd.R_mono (Kd.R_far (p := ⟨gb498, 1, none⟩) (Kd.R_far (p := ⟨gb498, 0, none⟩) (Kd.R_types HO497.out BK498.out (by decide)) (fun _ hk => hk.2) (.int .i64 t494)) (fun _ hk => hk.2) (.slice Ao45 y495.length co45)) (fun _ h_ => h_.1)))) (by decide)) hk (fun _ h => h.2)) (fun _ h => h.1));have n2_ := aM (KeepBut.blk hk (g' := gb498) (o := .cells #[.int .i64 t494, .slice Ao45 y495.length co45] 31 (0, 0)) (by refine kP ?_;refine blk_put (cs := #[.int .i64 t494, .slice none 0 0]) ?_ 1 _ rfl;refine kP ?_;refine blk_put (cs := #[.int .i64 0, .slice none 0 0]) ?_ 0 _ rfl;exact kP BK498.out) NB498_0.out (by simp));have n3_ := aM (KeepBut.trans (by exact kK) hk (.inl rfl));have n4_ := aM (hb);have n5_ := aM (hi);clear BK481;clear HO497;clear BK498;clear HK;clear HB;clear HI0;have BK481 := n0_;have HO497 := n1_;have BK498 := n2_;have HK := n3_;have HB := n4_;have HI0 := n5_;clear n0_ n1_ n2_ n3_ n4_ n5_;(try clear hb);(try clear hb2);(try clear hk);(try clear hi)) | ((with_reducible refine gate_callee (f := 133) rfl ?_);refine goesL_ (some 93) rfl rfl Try.func133 (by kernel_rfl) rfl #[.int .i64 t494] rfl mM ?_;(with_reducible refine (spec_l2Cycle.calls kj12 t494 t512 t513 _ A41.out).mono ?_);rintro e w51 ⟨v514, rfl, ho0, hb⟩;refine ⟨_, rfl, ?_⟩;have n0_ := aM (Kd.R_elder' (by exact rP HO497.out) (Kd.R_base ho0) hb);have n1_ := aM (Kd.R_lower (Kd.R_new' ho0 (Kd.R_lt (by exact rP HO497.out))) (keep_size (w := w) (g := g) (row := none) (by exact kK)));have n2_ := aM (kB hb BK481.out);have n3_ := aM (IsS91.below (by repeat (first | (with_reducible first | exact HI0.out | apply IsS91.alloc | apply IsS91.drewN | apply IsS91.drew | apply IsS91.set_1 | apply IsS91.set_2 | refine IsS91.far ?_ NB0_481.out _ | refine IsS91.far ?_ NB0_498.out _) | exact HI0.out)) hb);have n4_ := aM (kB hb BK498.out);have n5_ := aM (KeepBut.trans (by exact kK) (KeepBut.of_below hb g none) (.inl rfl));have n6_ := aM (below_step (by exact bB) hb);clear HO497;clear BK481;clear HI0;clear BK498;clear HK;clear HB;have HO497 := n0_;have HO515 := n1_;have BK481 := n2_;have HI0 := n3_;have BK498 := n4_;have HK := n5_;have HB := n6_;clear n0_ n1_ n2_ n3_ n4_ n5_ n6_;(try clear hb);(try clear hb2);(try clear hk);(try clear hi);(try clear ho0);have hcz52_0 := bC0 BK498.out;have hcz52_1 := bC1 BK498.out;have hfz52_0 := blk_frozen BK498.out 0;have hfz52_1 := blk_frozen BK498.out 1;obtain ⟨Ao53, co53, eo53⟩ := Kd.R_slice HO515.out;subst eo53) | ((with_reducible refine gate_store (t := 31) (p := 6) rfl ?_);refine store_event (t := 31) (p := 6) (v := ?vo_w54) (w1 := ((w51.setCell ⟨gb498, 0, none⟩ (.int .i64 t512)).setCell ⟨gb498, 1, none⟩ (.slice Ao53 t513.length co53))) ?hg ?ho ?hn ?hr ?_;(case ho => rfl);(case hg => rfl);(case hn => rfl);(case hr => first | (go_simp;done) | (go_simp;rfl));intro w54 hw;have n0_ : Aside0 (Kd.R k119 119 w54 w.heap.size (fun k_ => some k_ ≠ (.slice Ao53 t513.length co53 : Value).ownBlock) (.slice Ao45 y495.length co45) y495) := ⟨(by rw [hw];exact (by refine rP ?_;exact Kd.R_mono (Kd.R_far (p := ⟨gb498, 1, none⟩) (Kd.R_far (p := ⟨gb498, 0, none⟩) (Kd.R_types HO497.out BK498.out (by decide)) (fun _ hk => hk.2) (.int .i64 t512)) (fun _ hk => hk.2) (.slice Ao53 t513.length co53)) (fun _ hk => hk.1.2)))⟩;have n1_ : Aside0 (Kd.R k119 119 w54 w.heap.size (fun k_ => some k_ ≠ (.slice Ao45 y495.length co45 : Value).ownBlock) (.slice Ao53 t513.length co53) t513) := ⟨(by rw [hw];exact (by refine rP ?_;exact Kd.R_mono (Kd.R_far (p := ⟨gb498, 1, none⟩) (Kd.R_far (p := ⟨gb498, 0, none⟩) (Kd.R_types HO515.out BK498.out (by decide)) (fun _ hk => hk.2) (.int .i64 t512)) (fun _ hk => hk.2) (.slice Ao53 t513.length co53)) (fun _ hk => hk.1.2)))⟩;have n2_ : Aside0 (w54.heap[gb481]? = some (.cells #[.int .i64 0, .slice none 0 0] 31 (0, 0))) := ⟨(by rw [hw];exact (by refine kP ?_;refine blk_far ?_ NB481_498.out _;refine kP ?_;refine blk_far ?_ NB481_498.out _;exact kP BK481.out))⟩;have n3_ : Aside0 (w54.heap[gb498]? = some (.cells #[.int .i64 t512, .slice Ao53 t513.length co53] 31 (0, 0))) := ⟨(by rw [hw];exact (by refine kP ?_;refine blk_put (cs := #[.int .i64 t512, .slice Ao45 y495.length co45]) ?_ 1 _ rfl;refine kP ?_;refine blk_put (cs := #[.int .i64 t494, .slice Ao45 y495.length co45]) ?_ 0 _ rfl;exact kP BK498.out))⟩;have n4_ : Aside0 (IsS91 w0 w54 g s0_0 t500 t501) := ⟨(by rw [hw];exact (by exact sS))⟩;have n5_ : Aside0 (KeepBut w w54 g none) := ⟨(by rw [hw];exact (by exact kK))⟩;have n6_ : Aside0 (Below w0.heap.size w0 w54) := ⟨(by rw [hw];exact (by exact bB))⟩;clear hw;clear HO497;clear HO515;clear BK481;clear BK498;clear HI0;clear HK;clear HB;have HO497 := n0_;have HO515 := n1_;have BK481 := n2_;have BK498 := n3_;have HI0 := n4_;have HK := n5_;have HB := n6_;clear n0_ n1_ n2_ n3_ n4_ n5_ n6_;have hcz55_0 := bC0 BK498.out;have hcz55_1 := bC1 BK498.out;have hfz55_0 := blk_frozen BK498.out 0;have hfz55_1 := blk_frozen BK498.out 1) | ((with_reducible refine gate_callee (f := 138) rfl ?_);refine goesL_ (some 100) rfl rfl Try.func138 (by kernel_rfl) rfl #[.pointer (some ⟨g, 0, none⟩), .agg #[.int .i64 t512, .slice Ao53 t513.length co53]] rfl mM ?_;(with_reducible refine (spec_l1Cur_marred.calls g s0_0 t500 t501 t512 (fun k_ => some k_ = (.slice Ao53 t513.length co53 : Value).ownBlock) (.slice Ao53 t513.length co53) t513 t516 t517 t520 t521 w0 _ ?side1 ?side2 ?side3 A42.out).mono ?_);(case side1 => exact sS);(case side2 => exact bB);(case side3 => exact Kd.R_lower (Kd.R_tight rfl HO515.out) HL.out);rintro e w56 ⟨v518, rfl, ho0, hi, hb, hkp⟩;refine ⟨_, rfl, ?_⟩;have n0_ := aM (blk_kept (by exact kP BK481.out) hkp (fun hs_ => Or.elim hs_ (fun hs_ => (fun e_ => (Kd.R_ne HO515.out BK481.out (by decide)) e_) hs_) (fun e_ => NB481_0.out e_)));have n1_ := aM (hi);have n2_ := aM (Kd.R_mono (ok' := fun k_ => some k_ ≠ (v518 : Value).ownBlock) (Kd.R_keptB ((IsS91.apart HI0.out HO497.out (by decide))) hkp (fun k_ hk_ hs_ => Or.elim hs_ (fun hs_ => (hk_.1) hs_) (fun e_ => (hk_.2) e_))) (fun k_ hk_ => fun e_ => Or.elim (ho0.1 k_ e_.symm) (fun hs_ => hk_.2.1 (.inl hs_)) (fun hn_ => Nat.not_le.2 hk_.2.2 hn_)));have n3_ := aM (blk_kept BK498.out hkp (fun hs_ => Or.elim hs_ (fun hs_ => (fun e_ => (Kd.R_ne HO515.out BK498.out (by decide)) e_) hs_) (fun e_ => NB498_0.out e_)));have n4_ := aM (Kd.R_mono (ok' := fun k_ => some k_ ≠ (.slice Ao45 y495.length co45 : Value).ownBlock) (Kd.R_raise (d := k119) (b := w0.heap.size) (b' := w.heap.size) (fun _ _ _ _ h_ => h_) ho0 (fun k_ e_ => Or.elim (ho0.1 k_ e_) (fun hs_ => (fun e_ => Kd.R_base HO515.out k_ e_.symm) hs_) (fun hn_ => Nat.le_trans (keep_size (w := w) (g := g) (row := none) (by exact kK)) hn_))) (fun k_ hk_ => Or.elim hk_ (fun hs_ => fun e_ => ((((IsS91.apart HI0.out HO497.out (by decide))).1 k_ e_.symm).1) hs_) (fun hn_ => (Kd.fresh' (Kd.R_lt (by exact rP HO497.out)) k_ hn_))));have n5_ := aM (Kept.keepG (by exact kK) hkp (fun k_ hs_ => Or.elim hs_ (fun hs_ => (fun e_ => .inr (Kd.R_base HO515.out k_ e_.symm)) hs_) (fun e_ => .inl e_)));have n6_ := aM (hb);clear BK481;clear HI0;clear HO497;clear BK498;clear HK;clear HB;clear HO515;have BK481 := n0_;have HI0 := n1_;have HO497 := n2_;have BK498 := n3_;have HO519 := n4_;have HK := n5_;have HB := n6_;clear n0_ n1_ n2_ n3_ n4_ n5_ n6_;(try clear hb);(try clear hkp);(try clear ho0);have hnb57 := NB481_0.out;have hnc57 := NB0_481.out;have hcz58_0 := bC0 BK481.out;have hcz58_1 := bC1 BK481.out;have hfz58_0 := blk_frozen BK481.out 0;have hfz58_1 := blk_frozen BK481.out 1;obtain ⟨Ao59, co59, eo59⟩ := Kd.R_slice HO519.out;subst eo59))
      refine bodyPost_ret (results_cell_row rfl _ _ gb481 31 #[.int .i64 t516, .slice Ao59 t517.length co59] (0, 0) _ rfl (by refine kP ?_;refine blk_put (cs := #[.int .i64 t516, .slice none 0 0]) ?_ 1 _ rfl;refine kP ?_;refine blk_put (cs := #[.int .i64 0, .slice none 0 0]) ?_ 0 _ rfl;exact kP BK481.out) Try.underlying31 rfl (by kernel_rfl)) rfl ?_
      exact ⟨_, by first | rfl | (simp [errW_none, errW_some] <;> rfl) | (simp [*, errW_none, errW_some] <;> rfl), by refine rP ?_;exact Kd.R_mono (Kd.R_far (p := ⟨gb481, 1, none⟩) (Kd.R_far (p := ⟨gb481, 0, none⟩) (Kd.R_types HO519.out BK481.out (by decide)) (fun _ hk => hk.2) (.int .i64 t516)) (fun _ hk => hk.2) (.slice Ao59 t517.length co59)) (fun _ hk => trivial), by exact sS, by exact bB, by exact kK⟩
     rw [if_neg c39] at H
     have c39b0 : (t499 == 1) = false := beq_eq_false_iff_ne.mpr c39
     have c39b1 : (t499 != 1) = true := bne_iff_ne.mpr c39
     by_cases c74 : t499 = 2
     ·rw [if_pos c74] at H
      have c74b0 : (t499 == 2) = true := beq_iff_eq.mpr c74
      have c74b1 : (t499 != 2) = false := bne_eq_false_iff_eq.mpr c74
      clear c74
      replace H := Option.bind_eq_some_iff.mp H
      obtain ⟨⟨t528, t529⟩, A750, H⟩ := H
      replace H : ((spec_l1Cur_marred.f s0_0 t500 t501 t528 t529).bind fun bt532 => (some (bt532.1, bt532.2.1, bt532.2.2.1, bt532.2.2.2))) = some (r1, r2, r3, r4) := H
      have A75 := Aside0.mk A750
      clear A750
      replace H := Option.bind_eq_some_iff.mp H
      obtain ⟨⟨t532, t533, t536, t537⟩, A760, H⟩ := H
      replace H : (some (t532, t533, t536, t537)) = some (r1, r2, r3, r4) := H
      have A76 := Aside0.mk A760
      clear A760
      simp only [Option.some.injEq, Prod.mk.injEq] at H
      obtain ⟨rfl, rfl, rfl, rfl⟩ := H
      go_wp2_with (first | ((with_reducible refine gate_callee (f := 126) rfl ?_);refine goesL_ (some 26) rfl rfl Try.func126 (by kernel_rfl) rfl #[.int .i64 x5_12, .int .i64 a1] rfl mM ?_;(with_reducible refine (spec_l1Least.calls x5_12 a1 t494 _ A17.out).mono ?_);rintro e w' ⟨rfl, ⟨nd, rfl⟩⟩;refine ⟨_, rfl, ?_⟩;(try (rw [drewN_self wc];generalize hq_ : World.drewN wc _ = wc;have n0_ : Aside0 (wc.heap[gb481]? = some (.cells #[.int .i64 0, .slice none 0 0] 31 (0, 0))) := ⟨by rw [← hq_];exact (by exact kP BK481.out)⟩;have n1_ : Aside0 (IsS91 w0 wc g s0_0 x1001_12 x1002_12) := ⟨by rw [← hq_];exact (by exact sS)⟩;have n2_ : Aside0 (KeepBut w wc g none) := ⟨by rw [← hq_];exact (by exact kK)⟩;have n3_ : Aside0 (Below w0.heap.size w0 wc) := ⟨by rw [← hq_];exact (by exact bB)⟩;clear BK481 HI0 HK HB hq_;have BK481 := n0_;have HI0 := n1_;have HK := n2_;have HB := n3_;clear n0_ n1_ n2_ n3_))) | ((with_reducible refine gate_dst (N := 28) rfl ?_);refine Kd.R_lit k119 _ 119 ?hg (N := 28) ?hd (xs := ([] : List (S119))) (inner := []) (ok := fun _ => True) (okp := fun _ => True) ?hr ?hp (fun _ hk => hk) trivial (Below.refl _ _) (Nat.le_refl _) (by simp) ?_;(case hd => rfl);(case hg => rfl);(case hr => first | (go_simp;done) | (go_simp;rfl));(case hp => exact (Reps.none _ _));intro v496 w77 ho78 hb hg_ hnew_;clear hg_ hnew_;(first | rw [← Ny495.out] at ho78 | (simp only [Int.reduceToNat] at ho78;rw [← Ny495.out] at ho78));have n0_ := aM (Kd.R_lower ho78 (keep_size (w := w) (g := g) (row := none) (by exact kK)));have n1_ := aM (kB hb BK481.out);have n2_ := aM (IsS91.below (by repeat (first | (with_reducible first | exact HI0.out | apply IsS91.alloc | apply IsS91.drewN | apply IsS91.drew | apply IsS91.set_1 | apply IsS91.set_2 | refine IsS91.far ?_ NB0_481.out _) | exact HI0.out)) hb);have n3_ := aM (KeepBut.trans (by exact kK) (KeepBut.of_below hb g none) (.inl rfl));have n4_ := aM (below_step (by exact bB) hb);clear BK481;clear HI0;clear HK;clear HB;have HO497 := n0_;have BK481 := n1_;have HI0 := n2_;have HK := n3_;have HB := n4_;clear n0_ n1_ n2_ n3_ n4_;clear hb ho78;obtain ⟨Ao79, co79, eo79⟩ := Kd.R_slice HO497.out;subst eo79) | ((with_reducible refine gate_dst (N := 6) rfl ?_);refine box_event ?hg (N := 6) ?hd (cs := #[.int .i64 0, .slice none 0 0]) (t := 31) ?hr ?_;(case hd => rfl);(case hg => rfl);(case hr => first | (go_simp;done) | (go_simp;rfl));intro gb498 hg w80 hbox hb;have n0_ := aM (Kd.R_below (by exact rP HO497.out) hb);have n1_ := aM (kB hb BK481.out);have n2_ := aM (IsS91.below (by repeat (first | (with_reducible first | exact HI0.out | apply IsS91.alloc | apply IsS91.drewN | apply IsS91.drew | apply IsS91.set_1 | apply IsS91.set_2 | refine IsS91.far ?_ NB0_481.out _) | exact HI0.out)) hb);have n3_ := aM (KeepBut.trans (by exact kK) (KeepBut.of_below hb g none) (.inl rfl));have n4_ := aM (below_step (by exact bB) hb);have n5_ := aM (hbox);have n6_ := aM ((by rw [hg];exact (keep_size (w := w) (g := g) (row := none) (by exact kK)) : w.heap.size ≤ gb498));have n7_ := aM ((Nat.le_trans HW0.out (by rw [hg];exact (keep_size (w := w) (g := g) (row := none) (by exact kK)) : w.heap.size ≤ gb498) : w0.heap.size ≤ gb498));have n8_ := aM (nL hg (kP BK481.out));have n9_ := aM (nG hg (kP BK481.out));have n10_ := aM ((by rw [hg];exact Nat.ne_of_lt (IsS91.lt (show IsS91 w0 _ g s0_0 x1001_12 x1002_12 from by exact sS)) : g ≠ gb498));have n11_ := aM ((by rw [hg];exact Nat.ne_of_gt (IsS91.lt (show IsS91 w0 _ g s0_0 x1001_12 x1002_12 from by exact sS)) : gb498 ≠ g));clear HO497;clear BK481;clear HI0;clear HK;clear HB;have HO497 := n0_;have BK481 := n1_;have HI0 := n2_;have HK := n3_;have HB := n4_;have BK498 := n5_;have GW498 := n6_;have GE498 := n7_;have NB481_498 := n8_;have NB498_481 := n9_;have NB0_498 := n10_;have NB498_0 := n11_;clear n0_ n1_ n2_ n3_ n4_ n5_ n6_ n7_ n8_ n9_ n10_ n11_;clear hb hbox hg;have hnb81 := NB498_481.out;have hnc81 := NB481_498.out;have hnb82 := NB498_0.out;have hnc82 := NB0_498.out;have hcz83_0 := bC0 BK498.out;have hcz83_1 := bC1 BK498.out;have hfz83_0 := blk_frozen BK498.out 0;have hfz83_1 := blk_frozen BK498.out 1) | ((with_reducible refine gate_callee (f := 131) rfl ?_);refine goesL_ (some 31) rfl rfl Try.func131 (by kernel_rfl) rfl #[.pointer (some ⟨g, 0, none⟩), .int .i64 8] rfl mM ?_;(with_reducible refine (spec_l1Cur_pick.calls g s0_0 x1001_12 x1002_12 8 t499 t500 t501 w0 _ ?side1 ?side2 A18.out).mono ?_);(case side1 => exact sS);(case side2 => exact bB);rintro e w84 ⟨rfl, hi, hb, hk⟩;refine ⟨_, rfl, ?_⟩;have n0_ := aM (KeepBut.blk hk (g' := gb481) (o := .cells #[.int .i64 0, .slice none 0 0] 31 (0, 0)) (by refine kP ?_;refine blk_far ?_ NB481_498.out _;refine kP ?_;refine blk_far ?_ NB481_498.out _;exact kP BK481.out) NB481_0.out (by simp));have n1_ := aM (Kd.R_mono (Kd.R_keep (IsS91.apart (show IsS91 w0 _ g s0_0 x1001_12 x1002_12 from by exact sS) (by exact rP ((Kd.R_mono (Kd.R_far (p := ⟨gb498, 1, none⟩) (Kd.R_far (p := ⟨gb498, 0, none⟩) (Kd.R_types HO497.out BK498.out (by decide)) (fun _ hk => hk.2) (.int .i64 t494)) (fun _ hk => hk.2) (.slice Ao79 y495.length co79)) (fun _ h_ => h_.1)))) (by decide)) hk (fun _ h => h.2)) (fun _ h => h.1));have n2_ := aM (KeepBut.blk hk (g' := gb498) (o := .cells #[.int .i64 t494, .slice Ao79 y495.length co79] 31 (0, 0)) (by refine kP ?_;refine blk_put (cs := #[.int .i64 t494, .slice none 0 0]) ?_ 1 _ rfl;refine kP ?_;refine blk_put (cs := #[.int .i64 0, .slice none 0 0]) ?_ 0 _ rfl;exact kP BK498.out) NB498_0.out (by simp));have n3_ := aM (KeepBut.trans (by exact kK) hk (.inl rfl));have n4_ := aM (hb);have n5_ := aM (hi);clear BK481;clear HO497;clear BK498;clear HK;clear HB;clear HI0;have BK481 := n0_;have HO497 := n1_;have BK498 := n2_;have HK := n3_;have HB := n4_;have HI0 := n5_;clear n0_ n1_ n2_ n3_ n4_ n5_;(try clear hb);(try clear hb2);(try clear hk);(try clear hi)) | ((with_reducible refine gate_callee (f := 134) rfl ?_);refine goesL_ (some 97) rfl rfl Try.func134 (by kernel_rfl) rfl #[.int .i64 t494] rfl mM ?_;(with_reducible refine (spec_l2Complete.calls kj12 t494 t528 t529 _ A75.out).mono ?_);rintro e w85 ⟨v530, rfl, ho0, hb⟩;refine ⟨_, rfl, ?_⟩;have n0_ := aM (Kd.R_elder' (by exact rP HO497.out) (Kd.R_base ho0) hb);have n1_ := aM (Kd.R_lower (Kd.R_new' ho0 (Kd.R_lt (by exact rP HO497.out))) (keep_size (w := w) (g := g) (row := none) (by exact kK)));have n2_ := aM (kB hb BK481.out);have n3_ := aM (IsS91.below (by repeat (first | (with_reducible first | exact HI0.out | apply IsS91.alloc | apply IsS91.drewN | apply IsS91.drew | apply IsS91.set_1 | apply IsS91.set_2 | refine IsS91.far ?_ NB0_481.out _ | refine IsS91.far ?_ NB0_498.out _) | exact HI0.out)) hb);have n4_ := aM (kB hb BK498.out);have n5_ := aM (KeepBut.trans (by exact kK) (KeepBut.of_below hb g none) (.inl rfl));have n6_ := aM (below_step (by exact bB) hb);clear HO497;clear BK481;clear HI0;clear BK498;clear HK;clear HB;have HO497 := n0_;have HO531 := n1_;have BK481 := n2_;have HI0 := n3_;have BK498 := n4_;have HK := n5_;have HB := n6_;clear n0_ n1_ n2_ n3_ n4_ n5_ n6_;(try clear hb);(try clear hb2);(try clear hk);(try clear hi);(try clear ho0);have hcz86_0 := bC0 BK498.out;have hcz86_1 := bC1 BK498.out;have hfz86_0 := blk_frozen BK498.out 0;have hfz86_1 := blk_frozen BK498.out 1;obtain ⟨Ao87, co87, eo87⟩ := Kd.R_slice HO531.out;subst eo87) | ((with_reducible refine gate_store (t := 31) (p := 6) rfl ?_);refine store_event (t := 31) (p := 6) (v := ?vo_w88) (w1 := ((w85.setCell ⟨gb498, 0, none⟩ (.int .i64 t528)).setCell ⟨gb498, 1, none⟩ (.slice Ao87 t529.length co87))) ?hg ?ho ?hn ?hr ?_;(case ho => rfl);(case hg => rfl);(case hn => rfl);(case hr => first | (go_simp;done) | (go_simp;rfl));intro w88 hw;have n0_ : Aside0 (Kd.R k119 119 w88 w.heap.size (fun k_ => some k_ ≠ (.slice Ao87 t529.length co87 : Value).ownBlock) (.slice Ao79 y495.length co79) y495) := ⟨(by rw [hw];exact (by refine rP ?_;exact Kd.R_mono (Kd.R_far (p := ⟨gb498, 1, none⟩) (Kd.R_far (p := ⟨gb498, 0, none⟩) (Kd.R_types HO497.out BK498.out (by decide)) (fun _ hk => hk.2) (.int .i64 t528)) (fun _ hk => hk.2) (.slice Ao87 t529.length co87)) (fun _ hk => hk.1.2)))⟩;have n1_ : Aside0 (Kd.R k119 119 w88 w.heap.size (fun k_ => some k_ ≠ (.slice Ao79 y495.length co79 : Value).ownBlock) (.slice Ao87 t529.length co87) t529) := ⟨(by rw [hw];exact (by refine rP ?_;exact Kd.R_mono (Kd.R_far (p := ⟨gb498, 1, none⟩) (Kd.R_far (p := ⟨gb498, 0, none⟩) (Kd.R_types HO531.out BK498.out (by decide)) (fun _ hk => hk.2) (.int .i64 t528)) (fun _ hk => hk.2) (.slice Ao87 t529.length co87)) (fun _ hk => hk.1.2)))⟩;have n2_ : Aside0 (w88.heap[gb481]? = some (.cells #[.int .i64 0, .slice none 0 0] 31 (0, 0))) := ⟨(by rw [hw];exact (by refine kP ?_;refine blk_far ?_ NB481_498.out _;refine kP ?_;refine blk_far ?_ NB481_498.out _;exact kP BK481.out))⟩;have n3_ : Aside0 (w88.heap[gb498]? = some (.cells #[.int .i64 t528, .slice Ao87 t529.length co87] 31 (0, 0))) := ⟨(by rw [hw];exact (by refine kP ?_;refine blk_put (cs := #[.int .i64 t528, .slice Ao79 y495.length co79]) ?_ 1 _ rfl;refine kP ?_;refine blk_put (cs := #[.int .i64 t494, .slice Ao79 y495.length co79]) ?_ 0 _ rfl;exact kP BK498.out))⟩;have n4_ : Aside0 (IsS91 w0 w88 g s0_0 t500 t501) := ⟨(by rw [hw];exact (by exact sS))⟩;have n5_ : Aside0 (KeepBut w w88 g none) := ⟨(by rw [hw];exact (by exact kK))⟩;have n6_ : Aside0 (Below w0.heap.size w0 w88) := ⟨(by rw [hw];exact (by exact bB))⟩;clear hw;clear HO497;clear HO531;clear BK481;clear BK498;clear HI0;clear HK;clear HB;have HO497 := n0_;have HO531 := n1_;have BK481 := n2_;have BK498 := n3_;have HI0 := n4_;have HK := n5_;have HB := n6_;clear n0_ n1_ n2_ n3_ n4_ n5_ n6_;have hcz89_0 := bC0 BK498.out;have hcz89_1 := bC1 BK498.out;have hfz89_0 := blk_frozen BK498.out 0;have hfz89_1 := blk_frozen BK498.out 1) | ((with_reducible refine gate_callee (f := 138) rfl ?_);refine goesL_ (some 100) rfl rfl Try.func138 (by kernel_rfl) rfl #[.pointer (some ⟨g, 0, none⟩), .agg #[.int .i64 t528, .slice Ao87 t529.length co87]] rfl mM ?_;(with_reducible refine (spec_l1Cur_marred.calls g s0_0 t500 t501 t528 (fun k_ => some k_ = (.slice Ao87 t529.length co87 : Value).ownBlock) (.slice Ao87 t529.length co87) t529 t532 t533 t536 t537 w0 _ ?side1 ?side2 ?side3 A76.out).mono ?_);(case side1 => exact sS);(case side2 => exact bB);(case side3 => exact Kd.R_lower (Kd.R_tight rfl HO531.out) HL.out);rintro e w90 ⟨v534, rfl, ho0, hi, hb, hkp⟩;refine ⟨_, rfl, ?_⟩;have n0_ := aM (blk_kept (by exact kP BK481.out) hkp (fun hs_ => Or.elim hs_ (fun hs_ => (fun e_ => (Kd.R_ne HO531.out BK481.out (by decide)) e_) hs_) (fun e_ => NB481_0.out e_)));have n1_ := aM (hi);have n2_ := aM (Kd.R_mono (ok' := fun k_ => some k_ ≠ (v534 : Value).ownBlock) (Kd.R_keptB ((IsS91.apart HI0.out HO497.out (by decide))) hkp (fun k_ hk_ hs_ => Or.elim hs_ (fun hs_ => (hk_.1) hs_) (fun e_ => (hk_.2) e_))) (fun k_ hk_ => fun e_ => Or.elim (ho0.1 k_ e_.symm) (fun hs_ => hk_.2.1 (.inl hs_)) (fun hn_ => Nat.not_le.2 hk_.2.2 hn_)));have n3_ := aM (blk_kept BK498.out hkp (fun hs_ => Or.elim hs_ (fun hs_ => (fun e_ => (Kd.R_ne HO531.out BK498.out (by decide)) e_) hs_) (fun e_ => NB498_0.out e_)));have n4_ := aM (Kd.R_mono (ok' := fun k_ => some k_ ≠ (.slice Ao79 y495.length co79 : Value).ownBlock) (Kd.R_raise (d := k119) (b := w0.heap.size) (b' := w.heap.size) (fun _ _ _ _ h_ => h_) ho0 (fun k_ e_ => Or.elim (ho0.1 k_ e_) (fun hs_ => (fun e_ => Kd.R_base HO531.out k_ e_.symm) hs_) (fun hn_ => Nat.le_trans (keep_size (w := w) (g := g) (row := none) (by exact kK)) hn_))) (fun k_ hk_ => Or.elim hk_ (fun hs_ => fun e_ => ((((IsS91.apart HI0.out HO497.out (by decide))).1 k_ e_.symm).1) hs_) (fun hn_ => (Kd.fresh' (Kd.R_lt (by exact rP HO497.out)) k_ hn_))));have n5_ := aM (Kept.keepG (by exact kK) hkp (fun k_ hs_ => Or.elim hs_ (fun hs_ => (fun e_ => .inr (Kd.R_base HO531.out k_ e_.symm)) hs_) (fun e_ => .inl e_)));have n6_ := aM (hb);clear BK481;clear HI0;clear HO497;clear BK498;clear HK;clear HB;clear HO531;have BK481 := n0_;have HI0 := n1_;have HO497 := n2_;have BK498 := n3_;have HO535 := n4_;have HK := n5_;have HB := n6_;clear n0_ n1_ n2_ n3_ n4_ n5_ n6_;(try clear hb);(try clear hkp);(try clear ho0);have hnb91 := NB481_0.out;have hnc91 := NB0_481.out;have hcz92_0 := bC0 BK481.out;have hcz92_1 := bC1 BK481.out;have hfz92_0 := blk_frozen BK481.out 0;have hfz92_1 := blk_frozen BK481.out 1;obtain ⟨Ao93, co93, eo93⟩ := Kd.R_slice HO535.out;subst eo93))
      refine bodyPost_ret (results_cell_row rfl _ _ gb481 31 #[.int .i64 t532, .slice Ao93 t533.length co93] (0, 0) _ rfl (by refine kP ?_;refine blk_put (cs := #[.int .i64 t532, .slice none 0 0]) ?_ 1 _ rfl;refine kP ?_;refine blk_put (cs := #[.int .i64 0, .slice none 0 0]) ?_ 0 _ rfl;exact kP BK481.out) Try.underlying31 rfl (by kernel_rfl)) rfl ?_
      exact ⟨_, by first | rfl | (simp [errW_none, errW_some] <;> rfl) | (simp [*, errW_none, errW_some] <;> rfl), by refine rP ?_;exact Kd.R_mono (Kd.R_far (p := ⟨gb481, 1, none⟩) (Kd.R_far (p := ⟨gb481, 0, none⟩) (Kd.R_types HO535.out BK481.out (by decide)) (fun _ hk => hk.2) (.int .i64 t532)) (fun _ hk => hk.2) (.slice Ao93 t533.length co93)) (fun _ hk => trivial), by exact sS, by exact bB, by exact kK⟩
     rw [if_neg c74] at H
     have c74b0 : (t499 == 2) = false := beq_eq_false_iff_ne.mpr c74
     have c74b1 : (t499 != 2) = true := bne_iff_ne.mpr c74
     obtain ⟨y538, hy538⟩ : ∃ y_ : List Int, y_ = (([3, 4, 6] : List Int)) := ⟨_, rfl⟩
     replace H : ((spec_l1Cur_among.f s0_0 t500 t501 y538).bind fun bt541 => ((spec_l1Cur_one.f s0_0 bt541.2.1 bt541.2.2 6).bind fun bt544 => (spec_l1Cur_someGraph.l0 kj12 t494 bt541.1 bt544.1 0 s0_0 bt544.2.1 bt544.2.2 t494 y495))) = some (r1, r2, r3, r4) := by first | (rw [hy538];with_reducible exact H) | (have H2_ := (Option.bind_some _ _).symm.trans H;rw [hy538];with_reducible exact H2_) | (have H2_ := (Option.bind_some _ _).symm.trans H;with_reducible exact H2_) | with_reducible exact H | (rw [hy538];exact H) | exact H
     have Ny538 := Aside0.mk hy538
     clear hy538
     replace H := Option.bind_eq_some_iff.mp H
     obtain ⟨⟨t541, t542, t543⟩, A940, H⟩ := H
     replace H : ((spec_l1Cur_one.f s0_0 t542 t543 6).bind fun bt544 => (spec_l1Cur_someGraph.l0 kj12 t494 t541 bt544.1 0 s0_0 bt544.2.1 bt544.2.2 t494 y495)) = some (r1, r2, r3, r4) := H
     have A94 := Aside0.mk A940
     clear A940
     replace H := Option.bind_eq_some_iff.mp H
     obtain ⟨⟨t544, t545, t546⟩, A950, H⟩ := H
     replace H : (spec_l1Cur_someGraph.l0 kj12 t494 t541 t544 0 s0_0 t545 t546 t494 y495) = some (r1, r2, r3, r4) := H
     have A95 := Aside0.mk A950
     clear A950
     have H' := Aside0.mk H
     clear H
     go_wp2_with (first | ((with_reducible refine gate_callee (f := 126) rfl ?_);refine goesL_ (some 26) rfl rfl Try.func126 (by kernel_rfl) rfl #[.int .i64 x5_12, .int .i64 a1] rfl mM ?_;(with_reducible refine (spec_l1Least.calls x5_12 a1 t494 _ A17.out).mono ?_);rintro e w' ⟨rfl, ⟨nd, rfl⟩⟩;refine ⟨_, rfl, ?_⟩;(try (rw [drewN_self wc];generalize hq_ : World.drewN wc _ = wc;have n0_ : Aside0 (wc.heap[gb481]? = some (.cells #[.int .i64 0, .slice none 0 0] 31 (0, 0))) := ⟨by rw [← hq_];exact (by exact kP BK481.out)⟩;have n1_ : Aside0 (IsS91 w0 wc g s0_0 x1001_12 x1002_12) := ⟨by rw [← hq_];exact (by exact sS)⟩;have n2_ : Aside0 (KeepBut w wc g none) := ⟨by rw [← hq_];exact (by exact kK)⟩;have n3_ : Aside0 (Below w0.heap.size w0 wc) := ⟨by rw [← hq_];exact (by exact bB)⟩;clear BK481 HI0 HK HB hq_;have BK481 := n0_;have HI0 := n1_;have HK := n2_;have HB := n3_;clear n0_ n1_ n2_ n3_))) | ((with_reducible refine gate_dst (N := 28) rfl ?_);refine Kd.R_lit k119 _ 119 ?hg (N := 28) ?hd (xs := ([] : List (S119))) (inner := []) (ok := fun _ => True) (okp := fun _ => True) ?hr ?hp (fun _ hk => hk) trivial (Below.refl _ _) (Nat.le_refl _) (by simp) ?_;(case hd => rfl);(case hg => rfl);(case hr => first | (go_simp;done) | (go_simp;rfl));(case hp => exact (Reps.none _ _));intro v496 w96 ho97 hb hg_ hnew_;clear hg_ hnew_;(first | rw [← Ny495.out] at ho97 | (simp only [Int.reduceToNat] at ho97;rw [← Ny495.out] at ho97));have n0_ := aM (Kd.R_lower ho97 (keep_size (w := w) (g := g) (row := none) (by exact kK)));have n1_ := aM (kB hb BK481.out);have n2_ := aM (IsS91.below (by repeat (first | (with_reducible first | exact HI0.out | apply IsS91.alloc | apply IsS91.drewN | apply IsS91.drew | apply IsS91.set_1 | apply IsS91.set_2 | refine IsS91.far ?_ NB0_481.out _) | exact HI0.out)) hb);have n3_ := aM (KeepBut.trans (by exact kK) (KeepBut.of_below hb g none) (.inl rfl));have n4_ := aM (below_step (by exact bB) hb);clear BK481;clear HI0;clear HK;clear HB;have HO497 := n0_;have BK481 := n1_;have HI0 := n2_;have HK := n3_;have HB := n4_;clear n0_ n1_ n2_ n3_ n4_;clear hb ho97;obtain ⟨Ao98, co98, eo98⟩ := Kd.R_slice HO497.out;subst eo98) | ((with_reducible refine gate_dst (N := 6) rfl ?_);refine box_event ?hg (N := 6) ?hd (cs := #[.int .i64 0, .slice none 0 0]) (t := 31) ?hr ?_;(case hd => rfl);(case hg => rfl);(case hr => first | (go_simp;done) | (go_simp;rfl));intro gb498 hg w99 hbox hb;have n0_ := aM (Kd.R_below (by exact rP HO497.out) hb);have n1_ := aM (kB hb BK481.out);have n2_ := aM (IsS91.below (by repeat (first | (with_reducible first | exact HI0.out | apply IsS91.alloc | apply IsS91.drewN | apply IsS91.drew | apply IsS91.set_1 | apply IsS91.set_2 | refine IsS91.far ?_ NB0_481.out _) | exact HI0.out)) hb);have n3_ := aM (KeepBut.trans (by exact kK) (KeepBut.of_below hb g none) (.inl rfl));have n4_ := aM (below_step (by exact bB) hb);have n5_ := aM (hbox);have n6_ := aM ((by rw [hg];exact (keep_size (w := w) (g := g) (row := none) (by exact kK)) : w.heap.size ≤ gb498));have n7_ := aM ((Nat.le_trans HW0.out (by rw [hg];exact (keep_size (w := w) (g := g) (row := none) (by exact kK)) : w.heap.size ≤ gb498) : w0.heap.size ≤ gb498));have n8_ := aM (nL hg (kP BK481.out));have n9_ := aM (nG hg (kP BK481.out));have n10_ := aM ((by rw [hg];exact Nat.ne_of_lt (IsS91.lt (show IsS91 w0 _ g s0_0 x1001_12 x1002_12 from by exact sS)) : g ≠ gb498));have n11_ := aM ((by rw [hg];exact Nat.ne_of_gt (IsS91.lt (show IsS91 w0 _ g s0_0 x1001_12 x1002_12 from by exact sS)) : gb498 ≠ g));clear HO497;clear BK481;clear HI0;clear HK;clear HB;have HO497 := n0_;have BK481 := n1_;have HI0 := n2_;have HK := n3_;have HB := n4_;have BK498 := n5_;have GW498 := n6_;have GE498 := n7_;have NB481_498 := n8_;have NB498_481 := n9_;have NB0_498 := n10_;have NB498_0 := n11_;clear n0_ n1_ n2_ n3_ n4_ n5_ n6_ n7_ n8_ n9_ n10_ n11_;clear hb hbox hg;have hnb100 := NB498_481.out;have hnc100 := NB481_498.out;have hnb101 := NB498_0.out;have hnc101 := NB0_498.out;have hcz102_0 := bC0 BK498.out;have hcz102_1 := bC1 BK498.out;have hfz102_0 := blk_frozen BK498.out 0;have hfz102_1 := blk_frozen BK498.out 1) | ((with_reducible refine gate_callee (f := 131) rfl ?_);refine goesL_ (some 31) rfl rfl Try.func131 (by kernel_rfl) rfl #[.pointer (some ⟨g, 0, none⟩), .int .i64 8] rfl mM ?_;(with_reducible refine (spec_l1Cur_pick.calls g s0_0 x1001_12 x1002_12 8 t499 t500 t501 w0 _ ?side1 ?side2 A18.out).mono ?_);(case side1 => exact sS);(case side2 => exact bB);rintro e w103 ⟨rfl, hi, hb, hk⟩;refine ⟨_, rfl, ?_⟩;have n0_ := aM (KeepBut.blk hk (g' := gb481) (o := .cells #[.int .i64 0, .slice none 0 0] 31 (0, 0)) (by refine kP ?_;refine blk_far ?_ NB481_498.out _;refine kP ?_;refine blk_far ?_ NB481_498.out _;exact kP BK481.out) NB481_0.out (by simp));have n1_ := aM (Kd.R_mono (Kd.R_keep (IsS91.apart (show IsS91 w0 _ g s0_0 x1001_12 x1002_12 from by exact sS) (by exact rP ((Kd.R_mono (Kd.R_far (p := ⟨gb498, 1, none⟩) (Kd.R_far (p := ⟨gb498, 0, none⟩) (Kd.R_types HO497.out BK498.out (by decide)) (fun _ hk => hk.2) (.int .i64 t494)) (fun _ hk => hk.2) (.slice Ao98 y495.length co98)) (fun _ h_ => h_.1)))) (by decide)) hk (fun _ h => h.2)) (fun _ h => h.1));have n2_ := aM (KeepBut.blk hk (g' := gb498) (o := .cells #[.int .i64 t494, .slice Ao98 y495.length co98] 31 (0, 0)) (by refine kP ?_;refine blk_put (cs := #[.int .i64 t494, .slice none 0 0]) ?_ 1 _ rfl;refine kP ?_;refine blk_put (cs := #[.int .i64 0, .slice none 0 0]) ?_ 0 _ rfl;exact kP BK498.out) NB498_0.out (by simp));have n3_ := aM (KeepBut.trans (by exact kK) hk (.inl rfl));have n4_ := aM (hb);have n5_ := aM (hi);clear BK481;clear HO497;clear BK498;clear HK;clear HB;clear HI0;have BK481 := n0_;have HO497 := n1_;have BK498 := n2_;have HK := n3_;have HB := n4_;have HI0 := n5_;clear n0_ n1_ n2_ n3_ n4_ n5_;(try clear hb);(try clear hb2);(try clear hk);(try clear hi)) | ((with_reducible refine gate_dst (N := 33) rfl ?_);refine Kd.R_lit (Kd.int .i64) _ 3 ?hg (N := 33) ?hd (xs := ([3, 4, 6] : List Int)) (inner := [.int .i64 3, .int .i64 4, .int .i64 6]) (ok := fun _ => True) (okp := fun _ => True) ?hr ?hp (fun _ hk => hk) trivial (Below.refl _ _) (Nat.le_refl _) (by simp) ?_;(case hd => rfl);(case hg => rfl);(case hr => first | (go_simp;done) | (go_simp;rfl));(case hp => exact (Reps.one (show Kd.M (Kd.int .i64) _ _ _ 3 [.int .i64 3] from rfl) (Reps.one (show Kd.M (Kd.int .i64) _ _ _ 4 [.int .i64 4] from rfl) (Reps.one (show Kd.M (Kd.int .i64) _ _ _ 6 [.int .i64 6] from rfl) (Reps.none _ _)))));intro v539 w104 ho105 hb hg_ hnew_;clear hg_ hnew_;(first | rw [← Ny538.out] at ho105 | (simp only [Int.reduceToNat] at ho105;rw [← Ny538.out] at ho105));have n0_ := aM (Kd.R_below (by exact rP HO497.out) hb);have n1_ := aM (Kd.R_lower ho105 (keep_size (w := w) (g := g) (row := none) (by exact kK)));have n2_ := aM (kB hb BK481.out);have n3_ := aM (IsS91.below (by repeat (first | (with_reducible first | exact HI0.out | apply IsS91.alloc | apply IsS91.drewN | apply IsS91.drew | apply IsS91.set_1 | apply IsS91.set_2 | refine IsS91.far ?_ NB0_481.out _ | refine IsS91.far ?_ NB0_498.out _) | exact HI0.out)) hb);have n4_ := aM (kB hb BK498.out);have n5_ := aM (KeepBut.trans (by exact kK) (KeepBut.of_below hb g none) (.inl rfl));have n6_ := aM (below_step (by exact bB) hb);clear HO497;clear BK481;clear HI0;clear BK498;clear HK;clear HB;have HO497 := n0_;have HO540 := n1_;have BK481 := n2_;have HI0 := n3_;have BK498 := n4_;have HK := n5_;have HB := n6_;clear n0_ n1_ n2_ n3_ n4_ n5_ n6_;clear hb ho105;obtain ⟨Ao106, co106, eo106⟩ := Kd.R_slice HO540.out;subst eo106) | ((with_reducible refine gate_callee (f := 129) rfl ?_);refine goesL_ (some 34) rfl rfl Try.func129 (by kernel_rfl) rfl #[.pointer (some ⟨g, 0, none⟩), .slice Ao106 y538.length co106] rfl mM ?_;(with_reducible refine (spec_l1Cur_among.calls g s0_0 t500 t501 _ _ y538 t541 t542 t543 w0 _ ?side1 ?side2 ?side3 ?side4 ?side5 A94.out).mono ?_);(case side1 => exact sS);(case side2 => exact bB);(case side3 => exact cP (Kd.R_reads' HO540.out).2.2);(case side4 => exact (Kd.R_reads' HO540.out).2.1);(case side5 => exact far_slice (IsS91.own_ne HI0.out HO540.out (by decide)));rintro e w107 ⟨rfl, hi, hb, hk⟩;refine ⟨_, rfl, ?_⟩;have n0_ := aM (KeepBut.blk hk (g' := gb481) (o := .cells #[.int .i64 0, .slice none 0 0] 31 (0, 0)) (by exact kP BK481.out) NB481_0.out (by simp));have n1_ := aM (Kd.R_mono (Kd.R_keep (IsS91.apart (show IsS91 w0 _ g s0_0 t500 t501 from by exact sS) (by exact rP HO497.out) (by decide)) hk (fun _ h => h.2)) (fun _ h => h.1));have n2_ := aM (KeepBut.blk hk (g' := gb498) (o := .cells #[.int .i64 t494, .slice Ao98 y495.length co98] 31 (0, 0)) (by exact kP BK498.out) NB498_0.out (by simp));have n3_ := aM (Kd.R_mono (Kd.R_keep (IsS91.apart (show IsS91 w0 _ g s0_0 t500 t501 from by exact sS) (by exact rP HO540.out) (by decide)) hk (fun _ h => h.2)) (fun _ h => h.1));have n4_ := aM (KeepBut.trans (by exact kK) hk (.inl rfl));have n5_ := aM (hb);have n6_ := aM (hi);clear BK481;clear HO497;clear BK498;clear HO540;clear HK;clear HB;clear HI0;have BK481 := n0_;have HO497 := n1_;have BK498 := n2_;have HO540 := n3_;have HK := n4_;have HB := n5_;have HI0 := n6_;clear n0_ n1_ n2_ n3_ n4_ n5_ n6_;(try clear hb);(try clear hb2);(try clear hk);(try clear hi)) | ((with_reducible refine gate_callee (f := 130) rfl ?_);refine goesL_ (some 36) rfl rfl Try.func130 (by kernel_rfl) rfl #[.pointer (some ⟨g, 0, none⟩), .int .i64 6] rfl mM ?_;(with_reducible refine (spec_l1Cur_one.calls g s0_0 t542 t543 6 t544 t545 t546 w0 _ ?side1 ?side2 A95.out).mono ?_);(case side1 => exact sS);(case side2 => exact bB);rintro e w108 ⟨rfl, hi, hb, hk⟩;refine ⟨_, rfl, ?_⟩;have n0_ := aM (KeepBut.blk hk (g' := gb481) (o := .cells #[.int .i64 0, .slice none 0 0] 31 (0, 0)) (by exact kP BK481.out) NB481_0.out (by simp));have n1_ := aM (Kd.R_mono (Kd.R_keep (IsS91.apart (show IsS91 w0 _ g s0_0 t542 t543 from by exact sS) (by exact rP HO497.out) (by decide)) hk (fun _ h => h.2)) (fun _ h => h.1));have n2_ := aM (KeepBut.blk hk (g' := gb498) (o := .cells #[.int .i64 t494, .slice Ao98 y495.length co98] 31 (0, 0)) (by exact kP BK498.out) NB498_0.out (by simp));have n3_ := aM (Kd.R_mono (Kd.R_keep (IsS91.apart (show IsS91 w0 _ g s0_0 t542 t543 from by exact sS) (by exact rP HO540.out) (by decide)) hk (fun _ h => h.2)) (fun _ h => h.1));have n4_ := aM (KeepBut.trans (by exact kK) hk (.inl rfl));have n5_ := aM (hb);have n6_ := aM (hi);clear BK481;clear HO497;clear BK498;clear HO540;clear HK;clear HB;clear HI0;have BK481 := n0_;have HO497 := n1_;have BK498 := n2_;have HO540 := n3_;have HK := n4_;have HB := n5_;have HI0 := n6_;clear n0_ n1_ n2_ n3_ n4_ n5_ n6_;(try clear hb);(try clear hb2);(try clear hk);(try clear hi)))
     go_loopg [9] kj12 (fun kq v9 w' => ∃ (x9_3 : Int) (x1001_3 : Int) (x1002_3 : Int) (x499001_3 : List (S119)) (u499001 : Value), v9 = .int .i64 x9_3 ∧ Aside0 (spec_l1Cur_someGraph.l0 kq t494 t541 t544 x9_3 s0_0 x1001_3 x1002_3 t494 x499001_3 = some (r1, r2, r3, r4)) ∧ Aside0 (kq ≤ kj12) ∧ Aside0 (Kd.R k119 119 w' w.heap.size (fun _ => True) u499001 x499001_3) ∧ Aside0 (w'.heap[gb481]? = some (.cells #[.int .i64 0, (.slice none 0 0)] 31 (0, 0))) ∧ Aside0 (w'.heap[gb498]? = some (.cells #[.int .i64 t494, u499001] 31 (0, 0))) ∧ Aside0 (IsS91 w0 w' g s0_0 x1001_3 x1002_3) ∧ Aside0 (KeepBut w w' g none) ∧ Aside0 (Below w0.heap.size w0 w'))
     case atStart => exact ⟨(0), (t545), (t546), (y495), (.slice Ao98 y495.length co98), (by first | rfl | (simp;done) | (simp [*];done)), H', ⟨Nat.le_refl _⟩, ⟨by exact rP HO497.out⟩, ⟨by exact kP BK481.out⟩, ⟨by exact kP BK498.out⟩, ⟨by exact sS⟩, ⟨by exact kK⟩, ⟨by exact bB⟩⟩
     case round =>
      clear H'
      try clear c1
      try clear c2
      try clear p2
      try clear c3
      try clear c4
      try clear c5
      try clear c6
      try clear p6
      try clear c7
      try clear c8
      try clear c9
      try clear c10
      try clear c10b0
      try clear c12
      try clear c13
      try clear c14
      try clear c19
      try clear c19b0
      try clear c19b1
      try clear c26
      try clear c27
      try clear c36
      try clear c39
      try clear c39b0
      try clear c39b1
      try clear c40
      try clear c40b0
      try clear c47
      try clear c48
      try clear c57
      try clear p64
      try clear c65
      try clear c66
      try clear c71
      try clear c74
      try clear c74b0
      try clear c74b1
      try clear c79
      try clear c81
      try clear c82
      try clear c91
      try clear c100
      try clear c101
      try clear hcz102_0
      try clear hcz102_1
      try clear hcz28_0
      try clear hcz28_1
      try clear hcz31_0
      try clear hcz31_1
      try clear hcz34_0
      try clear hcz34_1
      try clear hcz37_0
      try clear hcz37_1
      try clear hcz49_0
      try clear hcz49_1
      try clear hcz52_0
      try clear hcz52_1
      try clear hcz55_0
      try clear hcz55_1
      try clear hcz58_0
      try clear hcz58_1
      try clear hcz67_0
      try clear hcz67_1
      try clear hcz69_0
      try clear hcz69_1
      try clear hcz72_0
      try clear hcz72_1
      try clear hcz83_0
      try clear hcz83_1
      try clear hcz86_0
      try clear hcz86_1
      try clear hcz89_0
      try clear hcz89_1
      try clear hcz92_0
      try clear hcz92_1
      try clear hfz102_0
      try clear hfz102_1
      try clear hfz28_0
      try clear hfz28_1
      try clear hfz31_0
      try clear hfz31_1
      try clear hfz34_0
      try clear hfz34_1
      try clear hfz37_0
      try clear hfz37_1
      try clear hfz49_0
      try clear hfz49_1
      try clear hfz52_0
      try clear hfz52_1
      try clear hfz55_0
      try clear hfz55_1
      try clear hfz58_0
      try clear hfz58_1
      try clear hfz67_0
      try clear hfz67_1
      try clear hfz69_0
      try clear hfz69_1
      try clear hfz72_0
      try clear hfz72_1
      try clear hfz83_0
      try clear hfz83_1
      try clear hfz86_0
      try clear hfz86_1
      try clear hfz89_0
      try clear hfz89_1
      try clear hfz92_0
      try clear hfz92_1
      try clear p2
      try clear p6
      obtain ⟨x9_3, x1001_3, x1002_3, x499001_3, u499001, rfl, HA, HK3, HO_499001, BK481, BK498, HI0, HK, HB⟩ := hrel
      cases gk with
      | zero => exact absurd HA.out (by simp [spec_l1Cur_someGraph.l0])
      | succ k3 =>
       have H := HA.out
       clear HA
       simp only [spec_l1Cur_someGraph.l0] at H
       by_cases c109 : x9_3 < t494
       rotate_left
       ·rw [if_neg c109] at H
        have c109b0 : decide (x9_3 < t494) = false := decide_eq_false c109
        clear c109
        replace H := Option.bind_eq_some_iff.mp H
        obtain ⟨⟨t547, t548, t551, t552⟩, A1480, H⟩ := H
        replace H : (some (t547, t548, t551, t552)) = some (r1, r2, r3, r4) := H
        have A148 := Aside0.mk A1480
        clear A1480
        simp only [Option.some.injEq, Prod.mk.injEq] at H
        obtain ⟨rfl, rfl, rfl, rfl⟩ := H
        have hnb149 := NB498_481.out
        have hnc149 := NB481_498.out
        have hnb150 := NB498_0.out
        have hnc150 := NB0_498.out
        have hcz151_0 := bC0 BK498.out
        have hcz151_1 := bC1 BK498.out
        have hfz151_0 := blk_frozen BK498.out 0
        have hfz151_1 := blk_frozen BK498.out 1
        obtain ⟨Ao152, co152, eo152⟩ := Kd.R_slice HO_499001.out
        subst eo152
        go_wp2_with (first | ((with_reducible refine gate_callee (f := 138) rfl ?_);refine goesL_ (some 100) rfl rfl Try.func138 (by kernel_rfl) rfl #[.pointer (some ⟨g, 0, none⟩), .agg #[.int .i64 t494, .slice Ao152 x499001_3.length co152]] rfl mM ?_;(with_reducible refine (spec_l1Cur_marred.calls g s0_0 x1001_3 x1002_3 t494 (fun k_ => some k_ = (.slice Ao152 x499001_3.length co152 : Value).ownBlock) (.slice Ao152 x499001_3.length co152) x499001_3 t547 t548 t551 t552 w0 _ ?side1 ?side2 ?side3 A148.out).mono ?_);(case side1 => exact sS);(case side2 => exact bB);(case side3 => exact Kd.R_lower (Kd.R_tight rfl HO_499001.out) HL.out);rintro e w153 ⟨v549, rfl, ho0, hi, hb, hkp⟩;refine ⟨_, rfl, ?_⟩;have n0_ := aM (blk_kept (by exact kP BK481.out) hkp (fun hs_ => Or.elim hs_ (fun hs_ => (fun e_ => (Kd.R_ne HO_499001.out BK481.out (by decide)) e_) hs_) (fun e_ => NB481_0.out e_)));have n1_ := aM (blk_kept (by exact kP BK498.out) hkp (fun hs_ => Or.elim hs_ (fun hs_ => (fun e_ => (Kd.R_ne HO_499001.out BK498.out (by decide)) e_) hs_) (fun e_ => NB498_0.out e_)));have n2_ := aM (hi);have n3_ := aM (Kd.R_mono (ok' := fun k_ => True) (Kd.R_raise (d := k119) (b := w0.heap.size) (b' := w.heap.size) (fun _ _ _ _ h_ => h_) ho0 (fun k_ e_ => Or.elim (ho0.1 k_ e_) (fun hs_ => (fun e_ => Kd.R_base HO_499001.out k_ e_.symm) hs_) (fun hn_ => Nat.le_trans (keep_size (w := w) (g := g) (row := none) (by exact kK)) hn_))) (fun k_ hk_ => trivial));have n4_ := aM (Kept.keepG (by exact kK) hkp (fun k_ hs_ => Or.elim hs_ (fun hs_ => (fun e_ => .inr (Kd.R_base HO_499001.out k_ e_.symm)) hs_) (fun e_ => .inl e_)));have n5_ := aM (hb);clear BK481;clear BK498;clear HI0;clear HK;clear HB;clear HO_499001;have BK481 := n0_;have BK498 := n1_;have HI0 := n2_;have HO550 := n3_;have HK := n4_;have HB := n5_;clear n0_ n1_ n2_ n3_ n4_ n5_;(try clear hb);(try clear hkp);(try clear ho0);have hnb154 := NB481_0.out;have hnc154 := NB0_481.out;have hcz155_0 := bC0 BK481.out;have hcz155_1 := bC1 BK481.out;have hfz155_0 := blk_frozen BK481.out 0;have hfz155_1 := blk_frozen BK481.out 1;obtain ⟨Ao156, co156, eo156⟩ := Kd.R_slice HO550.out;subst eo156))
        refine bodyPost_ret (results_cell_row rfl _ _ gb481 31 #[.int .i64 t547, .slice Ao156 t548.length co156] (0, 0) _ rfl (by refine kP ?_;refine blk_put (cs := #[.int .i64 t547, .slice none 0 0]) ?_ 1 _ rfl;refine kP ?_;refine blk_put (cs := #[.int .i64 0, .slice none 0 0]) ?_ 0 _ rfl;exact kP BK481.out) Try.underlying31 rfl (by kernel_rfl)) rfl ?_
        exact ⟨_, by first | rfl | (simp [errW_none, errW_some] <;> rfl) | (simp [*, errW_none, errW_some] <;> rfl), by refine rP ?_;exact Kd.R_mono (Kd.R_far (p := ⟨gb481, 1, none⟩) (Kd.R_far (p := ⟨gb481, 0, none⟩) (Kd.R_types HO550.out BK481.out (by decide)) (fun _ hk => hk.2) (.int .i64 t547)) (fun _ hk => hk.2) (.slice Ao156 t548.length co156)) (fun _ hk => trivial), by exact sS, by exact bB, by exact kK⟩
       rw [if_pos c109] at H
       have c109b0 : decide (x9_3 < t494) = true := decide_eq_true c109
       clear c109
       have H' := Aside0.mk H
       clear H
       go_wp2
       go_loopg [10] k3 (fun kq v10 w' => ∃ (x10_4 : Int) (x1001_4 : Int) (x1002_4 : Int) (x499001_4 : List (S119)) (u499001 : Value), v10 = .int .i64 x10_4 ∧ Aside0 (spec_l1Cur_someGraph.l1 kq t494 t541 t544 x9_3 x10_4 s0_0 x1001_4 x1002_4 t494 x499001_4 = some (r1, r2, r3, r4)) ∧ Aside0 (kq ≤ k3) ∧ Aside0 (Kd.R k119 119 w' w.heap.size (fun _ => True) u499001 x499001_4) ∧ Aside0 (w'.heap[gb481]? = some (.cells #[.int .i64 0, (.slice none 0 0)] 31 (0, 0))) ∧ Aside0 (w'.heap[gb498]? = some (.cells #[.int .i64 t494, u499001] 31 (0, 0))) ∧ Aside0 (IsS91 w0 w' g s0_0 x1001_4 x1002_4) ∧ Aside0 (KeepBut w w' g none) ∧ Aside0 (Below w0.heap.size w0 w'))
       case atStart => exact ⟨(wrap64 (x9_3 + 1)), (x1001_3), (x1002_3), (x499001_3), (u499001), (by first | rfl | (simp;done) | (simp [*];done)), H', ⟨Nat.le_refl _⟩, ⟨by exact rP HO_499001.out⟩, ⟨by exact kP BK481.out⟩, ⟨by exact kP BK498.out⟩, ⟨by exact sS⟩, ⟨by exact kK⟩, ⟨by exact bB⟩⟩
       case round =>
        clear H'
        try clear c1
        try clear c2
        try clear p2
        try clear c3
        try clear c4
        try clear c5
        try clear c6
        try clear p6
        try clear c7
        try clear c8
        try clear c9
        try clear c10
        try clear c10b0
        try clear c12
        try clear c13
        try clear c14
        try clear c19
        try clear c19b0
        try clear c19b1
        try clear c26
        try clear c27
        try clear c36
        try clear c39
        try clear c39b0
        try clear c39b1
        try clear c40
        try clear c40b0
        try clear c47
        try clear c48
        try clear c57
        try clear p64
        try clear c65
        try clear c66
        try clear c71
        try clear c74
        try clear c74b0
        try clear c74b1
        try clear c79
        try clear c81
        try clear c82
        try clear c91
        try clear c100
        try clear c101
        try clear c109
        try clear c109b0
        try clear hcz102_0
        try clear hcz102_1
        try clear hcz28_0
        try clear hcz28_1
        try clear hcz31_0
        try clear hcz31_1
        try clear hcz34_0
        try clear hcz34_1
        try clear hcz37_0
        try clear hcz37_1
        try clear hcz49_0
        try clear hcz49_1
        try clear hcz52_0
        try clear hcz52_1
        try clear hcz55_0
        try clear hcz55_1
        try clear hcz58_0
        try clear hcz58_1
        try clear hcz67_0
        try clear hcz67_1
        try clear hcz69_0
        try clear hcz69_1
        try clear hcz72_0
        try clear hcz72_1
        try clear hcz83_0
        try clear hcz83_1
        try clear hcz86_0
        try clear hcz86_1
        try clear hcz89_0
        try clear hcz89_1
        try clear hcz92_0
        try clear hcz92_1
        try clear hfz102_0
        try clear hfz102_1
        try clear hfz28_0
        try clear hfz28_1
        try clear hfz31_0
        try clear hfz31_1
        try clear hfz34_0
        try clear hfz34_1
        try clear hfz37_0
        try clear hfz37_1
        try clear hfz49_0
        try clear hfz49_1
        try clear hfz52_0
        try clear hfz52_1
        try clear hfz55_0
        try clear hfz55_1
        try clear hfz58_0
        try clear hfz58_1
        try clear hfz67_0
        try clear hfz67_1
        try clear hfz69_0
        try clear hfz69_1
        try clear hfz72_0
        try clear hfz72_1
        try clear hfz83_0
        try clear hfz83_1
        try clear hfz86_0
        try clear hfz86_1
        try clear hfz89_0
        try clear hfz89_1
        try clear hfz92_0
        try clear hfz92_1
        try clear p2
        try clear p6
        try clear p64
        obtain ⟨x10_4, x1001_4, x1002_4, x499001_4, u499001, rfl, HA, HK4, HO_499001, BK481, BK498, HI0, HK, HB⟩ := hrel
        cases gk with
        | zero => exact absurd HA.out (by simp [spec_l1Cur_someGraph.l1])
        | succ k4 =>
         have H := HA.out
         clear HA
         simp only [spec_l1Cur_someGraph.l1] at H
         by_cases c110 : x10_4 < t494
         ·rw [if_pos c110] at H
          have c110b0 : decide (x10_4 < t494) = true := decide_eq_true c110
          clear c110
          replace H := Option.bind_eq_some_iff.mp H
          obtain ⟨⟨t553, t554, t555⟩, A1110, H⟩ := H
          replace H : (if t553 = 0 then ((spec_l2Put.f k4 x499001_4 x9_3 x10_4).bind fun t556 => (spec_l1Cur_someGraph.l1 k4 t494 t541 t544 x9_3 (wrap64 (x10_4 + 1)) s0_0 t554 t555 t494 t556)) else (spec_l1Cur_someGraph.l1 k4 t494 t541 t544 x9_3 (wrap64 (x10_4 + 1)) s0_0 t554 t555 t494 x499001_4)) = some (r1, r2, r3, r4) := H
          have A111 := Aside0.mk A1110
          clear A1110
          by_cases c112 : t553 = 0
          rotate_left
          ·rw [if_neg c112] at H
           have c112b0 : (t553 == 0) = false := beq_eq_false_iff_ne.mpr c112
           have c112b1 : (t553 != 0) = true := bne_iff_ne.mpr c112
           have H' := Aside0.mk H
           clear H
           go_wp2_with (first | ((with_reducible refine gate_callee (f := 131) rfl ?_);refine goesL_ (some 51) rfl rfl Try.func131 (by kernel_rfl) rfl #[.pointer (some ⟨g, 0, none⟩), .int .i64 t541] rfl mM ?_;(with_reducible refine (spec_l1Cur_pick.calls g s0_0 x1001_4 x1002_4 t541 t553 t554 t555 w0 _ ?side1 ?side2 A111.out).mono ?_);(case side1 => exact sS);(case side2 => exact bB);rintro e w122 ⟨rfl, hi, hb, hk⟩;refine ⟨_, rfl, ?_⟩;have n0_ := aM (Kd.R_mono (Kd.R_keep (IsS91.apart (show IsS91 w0 _ g s0_0 x1001_4 x1002_4 from by exact sS) (by exact rP HO_499001.out) (by decide)) hk (fun _ h => h.2)) (fun _ h => h.1));have n1_ := aM (KeepBut.blk hk (g' := gb481) (o := .cells #[.int .i64 0, .slice none 0 0] 31 (0, 0)) (by exact kP BK481.out) NB481_0.out (by simp));have n2_ := aM (KeepBut.blk hk (g' := gb498) (o := .cells #[.int .i64 t494, u499001] 31 (0, 0)) (by exact kP BK498.out) NB498_0.out (by simp));have n3_ := aM (KeepBut.trans (by exact kK) hk (.inl rfl));have n4_ := aM (hb);have n5_ := aM (hi);clear HO_499001;clear BK481;clear BK498;clear HK;clear HB;clear HI0;have HO_499001 := n0_;have BK481 := n1_;have BK498 := n2_;have HK := n3_;have HB := n4_;have HI0 := n5_;clear n0_ n1_ n2_ n3_ n4_ n5_;(try clear hb);(try clear hb2);(try clear hk);(try clear hi)))
           go_roundg k4
           case measure => have := HJ3.out;have := HJ12.out;have := HK3.out;have := HK4.out;omega
           case rel => exact ⟨(wrap64 (x10_4 + 1)), (t554), (t555), (x499001_4), (u499001), (by first | rfl | (simp;done) | (simp [*];done)), H', ⟨by have := HJ3.out;have := HJ12.out;have := HK3.out;have := HK4.out;omega⟩, ⟨by exact rP HO_499001.out⟩, ⟨by exact kP BK481.out⟩, ⟨by exact kP BK498.out⟩, ⟨by exact sS⟩, ⟨by exact kK⟩, ⟨by exact bB⟩⟩
          rw [if_pos c112] at H
          have c112b0 : (t553 == 0) = true := beq_iff_eq.mpr c112
          have c112b1 : (t553 != 0) = false := bne_eq_false_iff_eq.mpr c112
          clear c112
          replace H := Option.bind_eq_some_iff.mp H
          obtain ⟨t556, A1130, H⟩ := H
          replace H : (spec_l1Cur_someGraph.l1 k4 t494 t541 t544 x9_3 (wrap64 (x10_4 + 1)) s0_0 t554 t555 t494 t556) = some (r1, r2, r3, r4) := H
          have A113 := Aside0.mk A1130
          clear A1130
          have H' := Aside0.mk H
          clear H
          go_wp2_with (first | ((with_reducible refine gate_callee (f := 131) rfl ?_);refine goesL_ (some 51) rfl rfl Try.func131 (by kernel_rfl) rfl #[.pointer (some ⟨g, 0, none⟩), .int .i64 t541] rfl mM ?_;(with_reducible refine (spec_l1Cur_pick.calls g s0_0 x1001_4 x1002_4 t541 t553 t554 t555 w0 _ ?side1 ?side2 A111.out).mono ?_);(case side1 => exact sS);(case side2 => exact bB);rintro e w114 ⟨rfl, hi, hb, hk⟩;refine ⟨_, rfl, ?_⟩;have n0_ := aM (Kd.R_mono (Kd.R_keep (IsS91.apart (show IsS91 w0 _ g s0_0 x1001_4 x1002_4 from by exact sS) (by exact rP HO_499001.out) (by decide)) hk (fun _ h => h.2)) (fun _ h => h.1));have n1_ := aM (KeepBut.blk hk (g' := gb481) (o := .cells #[.int .i64 0, .slice none 0 0] 31 (0, 0)) (by exact kP BK481.out) NB481_0.out (by simp));have n2_ := aM (KeepBut.blk hk (g' := gb498) (o := .cells #[.int .i64 t494, u499001] 31 (0, 0)) (by exact kP BK498.out) NB498_0.out (by simp));have n3_ := aM (KeepBut.trans (by exact kK) hk (.inl rfl));have n4_ := aM (hb);have n5_ := aM (hi);clear HO_499001;clear BK481;clear BK498;clear HK;clear HB;clear HI0;have HO_499001 := n0_;have BK481 := n1_;have BK498 := n2_;have HK := n3_;have HB := n4_;have HI0 := n5_;clear n0_ n1_ n2_ n3_ n4_ n5_;(try clear hb);(try clear hb2);(try clear hk);(try clear hi);have hnb115 := NB498_481.out;have hnc115 := NB481_498.out;have hnb116 := NB498_0.out;have hnc116 := NB0_498.out;have hcz117_0 := bC0 BK498.out;have hcz117_1 := bC1 BK498.out;have hfz117_0 := blk_frozen BK498.out 0;have hfz117_1 := blk_frozen BK498.out 1;obtain ⟨Ao118, co118, eo118⟩ := Kd.R_slice HO_499001.out;subst eo118) | ((with_reducible refine gate_callee (f := 135) rfl ?_);refine goesL_ (some 58) rfl rfl Try.func135 (by kernel_rfl) rfl #[.slice Ao118 x499001_4.length co118, .agg #[.int .i64 x9_3, .int .i64 x10_4]] rfl mM ?_;(with_reducible refine (spec_l2Put.calls k4 _ _ x499001_4 x9_3 x10_4 t556 _ ?side1 ?side2 A113.out).mono ?_);(case side1 => exact cP (Kd.R_reads' HO_499001.out).2.2);(case side2 => exact (Kd.R_reads' HO_499001.out).2.1);rintro e w119 ⟨v557, rfl, ho0, hb⟩;refine ⟨_, rfl, ?_⟩;have n0_ := aM (Kd.R_elder' (by exact rP HO_499001.out) (Kd.R_base ho0) hb);have n1_ := aM (Kd.R_lower (Kd.R_new' ho0 (Kd.R_lt (by exact rP HO_499001.out))) (keep_size (w := w) (g := g) (row := none) (by exact kK)));have n2_ := aM (kB hb BK481.out);have n3_ := aM (kB hb BK498.out);have n4_ := aM (IsS91.below (by repeat (first | (with_reducible first | exact HI0.out | apply IsS91.alloc | apply IsS91.drewN | apply IsS91.drew | apply IsS91.set_1 | apply IsS91.set_2 | refine IsS91.far ?_ NB0_481.out _ | refine IsS91.far ?_ NB0_498.out _) | exact HI0.out)) hb);have n5_ := aM (KeepBut.trans (by exact kK) (KeepBut.of_below hb g none) (.inl rfl));have n6_ := aM (below_step (by exact bB) hb);clear HO_499001;clear BK481;clear BK498;clear HI0;clear HK;clear HB;have HO_499001 := n0_;have HO558 := n1_;have BK481 := n2_;have BK498 := n3_;have HI0 := n4_;have HK := n5_;have HB := n6_;clear n0_ n1_ n2_ n3_ n4_ n5_ n6_;(try clear hb);(try clear hb2);(try clear hk);(try clear hi);(try clear ho0);obtain ⟨Ao120, co120, eo120⟩ := Kd.R_slice HO558.out;subst eo120;have hcz121_0 := bC0 BK498.out;have hcz121_1 := bC1 BK498.out;have hfz121_0 := blk_frozen BK498.out 0;have hfz121_1 := blk_frozen BK498.out 1))
          go_roundg k4
          case measure => have := HJ3.out;have := HJ12.out;have := HK3.out;have := HK4.out;omega
          case rel => exact ⟨(wrap64 (x10_4 + 1)), (t554), (t555), (t556), (.slice Ao120 t556.length co120), (by first | rfl | (simp;done) | (simp [*];done)), H', ⟨by have := HJ3.out;have := HJ12.out;have := HK3.out;have := HK4.out;omega⟩, ⟨by refine rP ?_;exact Kd.R_mono (Kd.R_far (p := ⟨gb498, 1, none⟩) (Kd.R_types HO558.out BK498.out (by decide)) (fun _ hk => hk.2) (.slice Ao120 t556.length co120)) (fun _ hk => trivial)⟩, ⟨by refine kP ?_;refine blk_far ?_ NB481_498.out _;exact kP BK481.out⟩, ⟨by refine kP ?_;refine blk_put (cs := #[.int .i64 t494, .slice Ao118 x499001_4.length co118]) ?_ 1 _ rfl;exact kP BK498.out⟩, ⟨by exact sS⟩, ⟨by exact kK⟩, ⟨by exact bB⟩⟩
         rw [if_neg c110] at H
         have c110b0 : decide (x10_4 < t494) = false := decide_eq_false c110
         clear c110
         replace H := Option.bind_eq_some_iff.mp H
         obtain ⟨t559, A1230, H⟩ := H
         replace H : ((spec_l1Cur_pick.f s0_0 x1001_4 x1002_4 t559).bind fun bt560 => (if x9_3 > 0 then (if t544 = true then (spec_l1Cur_someGraph.l0 k4 t494 t541 t544 (wrap64 (x9_3 + 1)) s0_0 bt560.2.1 bt560.2.2 t494 x499001_4) else ((spec_l2Near.f k4 t494 x499001_4 x9_3 bt560.1).bind fun t563 => (if t563 = true then (spec_l1Cur_someGraph.l0 k4 t494 t541 t544 (wrap64 (x9_3 + 1)) s0_0 bt560.2.1 bt560.2.2 t494 x499001_4) else ((spec_l2Put.f k4 x499001_4 bt560.1 x9_3).bind fun t564 => (spec_l1Cur_someGraph.l0 k4 t494 t541 t544 (wrap64 (x9_3 + 1)) s0_0 bt560.2.1 bt560.2.2 t494 t564))))) else (spec_l1Cur_someGraph.l0 k4 t494 t541 t544 (wrap64 (x9_3 + 1)) s0_0 bt560.2.1 bt560.2.2 t494 x499001_4))) = some (r1, r2, r3, r4) := H
         have A123 := Aside0.mk A1230
         clear A1230
         replace H := Option.bind_eq_some_iff.mp H
         obtain ⟨⟨t560, t561, t562⟩, A1240, H⟩ := H
         replace H : (if x9_3 > 0 then (if t544 = true then (spec_l1Cur_someGraph.l0 k4 t494 t541 t544 (wrap64 (x9_3 + 1)) s0_0 t561 t562 t494 x499001_4) else ((spec_l2Near.f k4 t494 x499001_4 x9_3 t560).bind fun t563 => (if t563 = true then (spec_l1Cur_someGraph.l0 k4 t494 t541 t544 (wrap64 (x9_3 + 1)) s0_0 t561 t562 t494 x499001_4) else ((spec_l2Put.f k4 x499001_4 t560 x9_3).bind fun t564 => (spec_l1Cur_someGraph.l0 k4 t494 t541 t544 (wrap64 (x9_3 + 1)) s0_0 t561 t562 t494 t564))))) else (spec_l1Cur_someGraph.l0 k4 t494 t541 t544 (wrap64 (x9_3 + 1)) s0_0 t561 t562 t494 x499001_4)) = some (r1, r2, r3, r4) := H
         have A124 := Aside0.mk A1240
         clear A1240
         by_cases c125 : x9_3 > 0
         rotate_left
         ·rw [if_neg c125] at H
          have c125b0 : decide (0 < x9_3) = false := decide_eq_false c125
          clear c125
          have H' := Aside0.mk H
          clear H
          go_wp2_with (first | ((with_reducible refine gate_callee (f := 136) rfl ?_);refine goesL_ (some 62) rfl rfl Try.func136 (by kernel_rfl) rfl #[.int .i64 x9_3, .int .i64 1] rfl mM ?_;(with_reducible refine (spec_l1Most.calls x9_3 1 t559 _ A123.out).mono ?_);rintro e w' ⟨rfl, ⟨nd, rfl⟩⟩;refine ⟨_, rfl, ?_⟩) | ((with_reducible refine gate_callee (f := 131) rfl ?_);refine goesL_ (some 63) rfl rfl Try.func131 (by kernel_rfl) rfl #[.pointer (some ⟨g, 0, none⟩), .int .i64 t559] rfl mM ?_;(with_reducible refine (spec_l1Cur_pick.calls g s0_0 x1001_4 x1002_4 t559 t560 t561 t562 w0 _ ?side1 ?side2 A124.out).mono ?_);(case side1 => exact sS);(case side2 => exact bB);rintro e w147 ⟨rfl, hi, hb, hk⟩;refine ⟨_, rfl, ?_⟩;have n0_ := aM (Kd.R_mono (Kd.R_keep (IsS91.apart (show IsS91 w0 _ g s0_0 x1001_4 x1002_4 from by exact sS) (by exact rP HO_499001.out) (by decide)) hk (fun _ h => h.2)) (fun _ h => h.1));have n1_ := aM (KeepBut.blk hk (g' := gb481) (o := .cells #[.int .i64 0, .slice none 0 0] 31 (0, 0)) (by exact kP BK481.out) NB481_0.out (by simp));have n2_ := aM (KeepBut.blk hk (g' := gb498) (o := .cells #[.int .i64 t494, u499001] 31 (0, 0)) (by exact kP BK498.out) NB498_0.out (by simp));have n3_ := aM (KeepBut.trans (by exact kK) hk (.inl rfl));have n4_ := aM (hb);have n5_ := aM (hi);clear HO_499001;clear BK481;clear BK498;clear HK;clear HB;clear HI0;have HO_499001 := n0_;have BK481 := n1_;have BK498 := n2_;have HK := n3_;have HB := n4_;have HI0 := n5_;clear n0_ n1_ n2_ n3_ n4_ n5_;(try clear hb);(try clear hb2);(try clear hk);(try clear hi)))
          go_roundg k4
          case measure => have := HJ3.out;have := HJ12.out;have := HK3.out;have := HK4.out;omega
          case rel => exact ⟨(wrap64 (x9_3 + 1)), (t561), (t562), (x499001_4), (u499001), (by first | rfl | (simp;done) | (simp [*];done)), H', ⟨by have := HJ3.out;have := HJ12.out;have := HK3.out;have := HK4.out;omega⟩, ⟨by exact rP HO_499001.out⟩, ⟨by exact kP BK481.out⟩, ⟨by exact kP BK498.out⟩, ⟨by exact sS⟩, ⟨by exact kK⟩, ⟨by exact bB⟩⟩
         rw [if_pos c125] at H
         have c125b0 : decide (0 < x9_3) = true := decide_eq_true c125
         clear c125
         by_cases c126 : t544 = true
         ·subst c126
          have H1 : (spec_l1Cur_someGraph.l0 k4 t494 t541 true (wrap64 (x9_3 + 1)) s0_0 t561 t562 t494 x499001_4) = some (r1, r2, r3, r4) := by rw [if_pos rfl] at H;exact H
          clear H
          have H := H1
          clear H1
          have H' := Aside0.mk H
          clear H
          go_wp2_with (first | ((with_reducible refine gate_callee (f := 136) rfl ?_);refine goesL_ (some 62) rfl rfl Try.func136 (by kernel_rfl) rfl #[.int .i64 x9_3, .int .i64 1] rfl mM ?_;(with_reducible refine (spec_l1Most.calls x9_3 1 t559 _ A123.out).mono ?_);rintro e w' ⟨rfl, ⟨nd, rfl⟩⟩;refine ⟨_, rfl, ?_⟩) | ((with_reducible refine gate_callee (f := 131) rfl ?_);refine goesL_ (some 63) rfl rfl Try.func131 (by kernel_rfl) rfl #[.pointer (some ⟨g, 0, none⟩), .int .i64 t559] rfl mM ?_;(with_reducible refine (spec_l1Cur_pick.calls g s0_0 x1001_4 x1002_4 t559 t560 t561 t562 w0 _ ?side1 ?side2 A124.out).mono ?_);(case side1 => exact sS);(case side2 => exact bB);rintro e w127 ⟨rfl, hi, hb, hk⟩;refine ⟨_, rfl, ?_⟩;have n0_ := aM (Kd.R_mono (Kd.R_keep (IsS91.apart (show IsS91 w0 _ g s0_0 x1001_4 x1002_4 from by exact sS) (by exact rP HO_499001.out) (by decide)) hk (fun _ h => h.2)) (fun _ h => h.1));have n1_ := aM (KeepBut.blk hk (g' := gb481) (o := .cells #[.int .i64 0, .slice none 0 0] 31 (0, 0)) (by exact kP BK481.out) NB481_0.out (by simp));have n2_ := aM (KeepBut.blk hk (g' := gb498) (o := .cells #[.int .i64 t494, u499001] 31 (0, 0)) (by exact kP BK498.out) NB498_0.out (by simp));have n3_ := aM (KeepBut.trans (by exact kK) hk (.inl rfl));have n4_ := aM (hb);have n5_ := aM (hi);clear HO_499001;clear BK481;clear BK498;clear HK;clear HB;clear HI0;have HO_499001 := n0_;have BK481 := n1_;have BK498 := n2_;have HK := n3_;have HB := n4_;have HI0 := n5_;clear n0_ n1_ n2_ n3_ n4_ n5_;(try clear hb);(try clear hb2);(try clear hk);(try clear hi)))
          go_roundg k4
          case measure => have := HJ3.out;have := HJ12.out;have := HK3.out;have := HK4.out;omega
          case rel => exact ⟨(wrap64 (x9_3 + 1)), (t561), (t562), (x499001_4), (u499001), (by first | rfl | (simp;done) | (simp [*];done)), H', ⟨by have := HJ3.out;have := HJ12.out;have := HK3.out;have := HK4.out;omega⟩, ⟨by exact rP HO_499001.out⟩, ⟨by exact kP BK481.out⟩, ⟨by exact kP BK498.out⟩, ⟨by exact sS⟩, ⟨by exact kK⟩, ⟨by exact bB⟩⟩
         replace c126 := Bool.eq_false_iff.mpr c126
         subst c126
         have H1 : ((spec_l2Near.f k4 t494 x499001_4 x9_3 t560).bind fun t563 => (if t563 = true then (spec_l1Cur_someGraph.l0 k4 t494 t541 false (wrap64 (x9_3 + 1)) s0_0 t561 t562 t494 x499001_4) else ((spec_l2Put.f k4 x499001_4 t560 x9_3).bind fun t564 => (spec_l1Cur_someGraph.l0 k4 t494 t541 false (wrap64 (x9_3 + 1)) s0_0 t561 t562 t494 t564)))) = some (r1, r2, r3, r4) := by rw [if_neg (show ¬ (false = true) by decide)] at H;exact H
         clear H
         have H := H1
         clear H1
         replace H := Option.bind_eq_some_iff.mp H
         obtain ⟨t563, A1280, H⟩ := H
         replace H : (if t563 = true then (spec_l1Cur_someGraph.l0 k4 t494 t541 false (wrap64 (x9_3 + 1)) s0_0 t561 t562 t494 x499001_4) else ((spec_l2Put.f k4 x499001_4 t560 x9_3).bind fun t564 => (spec_l1Cur_someGraph.l0 k4 t494 t541 false (wrap64 (x9_3 + 1)) s0_0 t561 t562 t494 t564))) = some (r1, r2, r3, r4) := H
         have A128 := Aside0.mk A1280
         clear A1280
         by_cases c129 : t563 = true
         ·subst c129
          have H1 : (spec_l1Cur_someGraph.l0 k4 t494 t541 false (wrap64 (x9_3 + 1)) s0_0 t561 t562 t494 x499001_4) = some (r1, r2, r3, r4) := by rw [if_pos rfl] at H;exact H
          clear H
          have H := H1
          clear H1
          have H' := Aside0.mk H
          clear H
          go_wp2_with (first | ((with_reducible refine gate_callee (f := 136) rfl ?_);refine goesL_ (some 62) rfl rfl Try.func136 (by kernel_rfl) rfl #[.int .i64 x9_3, .int .i64 1] rfl mM ?_;(with_reducible refine (spec_l1Most.calls x9_3 1 t559 _ A123.out).mono ?_);rintro e w' ⟨rfl, ⟨nd, rfl⟩⟩;refine ⟨_, rfl, ?_⟩) | ((with_reducible refine gate_callee (f := 131) rfl ?_);refine goesL_ (some 63) rfl rfl Try.func131 (by kernel_rfl) rfl #[.pointer (some ⟨g, 0, none⟩), .int .i64 t559] rfl mM ?_;(with_reducible refine (spec_l1Cur_pick.calls g s0_0 x1001_4 x1002_4 t559 t560 t561 t562 w0 _ ?side1 ?side2 A124.out).mono ?_);(case side1 => exact sS);(case side2 => exact bB);rintro e w130 ⟨rfl, hi, hb, hk⟩;refine ⟨_, rfl, ?_⟩;have n0_ := aM (Kd.R_mono (Kd.R_keep (IsS91.apart (show IsS91 w0 _ g s0_0 x1001_4 x1002_4 from by exact sS) (by exact rP HO_499001.out) (by decide)) hk (fun _ h => h.2)) (fun _ h => h.1));have n1_ := aM (KeepBut.blk hk (g' := gb481) (o := .cells #[.int .i64 0, .slice none 0 0] 31 (0, 0)) (by exact kP BK481.out) NB481_0.out (by simp));have n2_ := aM (KeepBut.blk hk (g' := gb498) (o := .cells #[.int .i64 t494, u499001] 31 (0, 0)) (by exact kP BK498.out) NB498_0.out (by simp));have n3_ := aM (KeepBut.trans (by exact kK) hk (.inl rfl));have n4_ := aM (hb);have n5_ := aM (hi);clear HO_499001;clear BK481;clear BK498;clear HK;clear HB;clear HI0;have HO_499001 := n0_;have BK481 := n1_;have BK498 := n2_;have HK := n3_;have HB := n4_;have HI0 := n5_;clear n0_ n1_ n2_ n3_ n4_ n5_;(try clear hb);(try clear hb2);(try clear hk);(try clear hi);have hnb131 := NB498_481.out;have hnc131 := NB481_498.out;have hnb132 := NB498_0.out;have hnc132 := NB0_498.out;have hcz133_0 := bC0 BK498.out;have hcz133_1 := bC1 BK498.out;have hfz133_0 := blk_frozen BK498.out 0;have hfz133_1 := blk_frozen BK498.out 1;obtain ⟨Ao134, co134, eo134⟩ := Kd.R_slice HO_499001.out;subst eo134) | (go_at_call 137;(with_reducible refine (spec_l2Near.calls k4 t494 _ _ x499001_4 x9_3 t560 true _ ?side1 ?side2 A128.out).mono ?_);(case side1 => exact cP (Kd.R_reads' HO_499001.out).2.2);(case side2 => exact (Kd.R_reads' HO_499001.out).2.1);rintro e w135 ⟨rfl, hb⟩;have n0_ := aM (Kd.R_below (by exact rP HO_499001.out) hb);have n1_ := aM (kB hb BK481.out);have n2_ := aM (kB hb BK498.out);have n3_ := aM (IsS91.below (by repeat (first | (with_reducible first | exact HI0.out | apply IsS91.alloc | apply IsS91.drewN | apply IsS91.drew | apply IsS91.set_1 | apply IsS91.set_2 | refine IsS91.far ?_ NB0_481.out _ | refine IsS91.far ?_ NB0_498.out _) | exact HI0.out)) hb);have n4_ := aM (KeepBut.trans (by exact kK) (KeepBut.of_below hb g none) (.inl rfl));have n5_ := aM (below_step (by exact bB) hb);clear HO_499001;clear BK481;clear BK498;clear HI0;clear HK;clear HB;have HO_499001 := n0_;have BK481 := n1_;have BK498 := n2_;have HI0 := n3_;have HK := n4_;have HB := n5_;clear n0_ n1_ n2_ n3_ n4_ n5_;(try clear hb);(try clear hb2);(try clear hk);(try clear hi)))
          go_roundg k4
          case measure => have := HJ3.out;have := HJ12.out;have := HK3.out;have := HK4.out;omega
          case rel => exact ⟨(wrap64 (x9_3 + 1)), (t561), (t562), (x499001_4), (.slice Ao134 x499001_4.length co134), (by first | rfl | (simp;done) | (simp [*];done)), H', ⟨by have := HJ3.out;have := HJ12.out;have := HK3.out;have := HK4.out;omega⟩, ⟨by exact rP HO_499001.out⟩, ⟨by exact kP BK481.out⟩, ⟨by exact kP BK498.out⟩, ⟨by exact sS⟩, ⟨by exact kK⟩, ⟨by exact bB⟩⟩
         replace c129 := Bool.eq_false_iff.mpr c129
         subst c129
         have H1 : ((spec_l2Put.f k4 x499001_4 t560 x9_3).bind fun t564 => (spec_l1Cur_someGraph.l0 k4 t494 t541 false (wrap64 (x9_3 + 1)) s0_0 t561 t562 t494 t564)) = some (r1, r2, r3, r4) := by rw [if_neg (show ¬ (false = true) by decide)] at H;exact H
         clear H
         have H := H1
         clear H1
         replace H := Option.bind_eq_some_iff.mp H
         obtain ⟨t564, A1360, H⟩ := H
         replace H : (spec_l1Cur_someGraph.l0 k4 t494 t541 false (wrap64 (x9_3 + 1)) s0_0 t561 t562 t494 t564) = some (r1, r2, r3, r4) := H
         have A136 := Aside0.mk A1360
         clear A1360
         have H' := Aside0.mk H
         clear H
         go_wp2_with (first | ((with_reducible refine gate_callee (f := 136) rfl ?_);refine goesL_ (some 62) rfl rfl Try.func136 (by kernel_rfl) rfl #[.int .i64 x9_3, .int .i64 1] rfl mM ?_;(with_reducible refine (spec_l1Most.calls x9_3 1 t559 _ A123.out).mono ?_);rintro e w' ⟨rfl, ⟨nd, rfl⟩⟩;refine ⟨_, rfl, ?_⟩;(try (rw [drewN_self wr];generalize hq_ : World.drewN wr _ = wr;have n0_ : Aside0 (Kd.R k119 119 wr w.heap.size (fun _ => True) u499001 x499001_4) := ⟨by rw [← hq_];exact (by exact rP HO_499001.out)⟩;have n1_ : Aside0 (wr.heap[gb481]? = some (.cells #[.int .i64 0, .slice none 0 0] 31 (0, 0))) := ⟨by rw [← hq_];exact (by exact kP BK481.out)⟩;have n2_ : Aside0 (wr.heap[gb498]? = some (.cells #[.int .i64 t494, u499001] 31 (0, 0))) := ⟨by rw [← hq_];exact (by exact kP BK498.out)⟩;have n3_ : Aside0 (IsS91 w0 wr g s0_0 x1001_4 x1002_4) := ⟨by rw [← hq_];exact (by exact sS)⟩;have n4_ : Aside0 (KeepBut w wr g none) := ⟨by rw [← hq_];exact (by exact kK)⟩;have n5_ : Aside0 (Below w0.heap.size w0 wr) := ⟨by rw [← hq_];exact (by exact bB)⟩;clear HO_499001 BK481 BK498 HI0 HK HB hq_;have HO_499001 := n0_;have BK481 := n1_;have BK498 := n2_;have HI0 := n3_;have HK := n4_;have HB := n5_;clear n0_ n1_ n2_ n3_ n4_ n5_))) | ((with_reducible refine gate_callee (f := 131) rfl ?_);refine goesL_ (some 63) rfl rfl Try.func131 (by kernel_rfl) rfl #[.pointer (some ⟨g, 0, none⟩), .int .i64 t559] rfl mM ?_;(with_reducible refine (spec_l1Cur_pick.calls g s0_0 x1001_4 x1002_4 t559 t560 t561 t562 w0 _ ?side1 ?side2 A124.out).mono ?_);(case side1 => exact sS);(case side2 => exact bB);rintro e w137 ⟨rfl, hi, hb, hk⟩;refine ⟨_, rfl, ?_⟩;have n0_ := aM (Kd.R_mono (Kd.R_keep (IsS91.apart (show IsS91 w0 _ g s0_0 x1001_4 x1002_4 from by exact sS) (by exact rP HO_499001.out) (by decide)) hk (fun _ h => h.2)) (fun _ h => h.1));have n1_ := aM (KeepBut.blk hk (g' := gb481) (o := .cells #[.int .i64 0, .slice none 0 0] 31 (0, 0)) (by exact kP BK481.out) NB481_0.out (by simp));have n2_ := aM (KeepBut.blk hk (g' := gb498) (o := .cells #[.int .i64 t494, u499001] 31 (0, 0)) (by exact kP BK498.out) NB498_0.out (by simp));have n3_ := aM (KeepBut.trans (by exact kK) hk (.inl rfl));have n4_ := aM (hb);have n5_ := aM (hi);clear HO_499001;clear BK481;clear BK498;clear HK;clear HB;clear HI0;have HO_499001 := n0_;have BK481 := n1_;have BK498 := n2_;have HK := n3_;have HB := n4_;have HI0 := n5_;clear n0_ n1_ n2_ n3_ n4_ n5_;(try clear hb);(try clear hb2);(try clear hk);(try clear hi);have hnb138 := NB498_481.out;have hnc138 := NB481_498.out;have hnb139 := NB498_0.out;have hnc139 := NB0_498.out;have hcz140_0 := bC0 BK498.out;have hcz140_1 := bC1 BK498.out;have hfz140_0 := blk_frozen BK498.out 0;have hfz140_1 := blk_frozen BK498.out 1;obtain ⟨Ao141, co141, eo141⟩ := Kd.R_slice HO_499001.out;subst eo141) | (go_at_call 137;(with_reducible refine (spec_l2Near.calls k4 t494 _ _ x499001_4 x9_3 t560 false _ ?side1 ?side2 A128.out).mono ?_);(case side1 => exact cP (Kd.R_reads' HO_499001.out).2.2);(case side2 => exact (Kd.R_reads' HO_499001.out).2.1);rintro e w142 ⟨rfl, hb⟩;have n0_ := aM (Kd.R_below (by exact rP HO_499001.out) hb);have n1_ := aM (kB hb BK481.out);have n2_ := aM (kB hb BK498.out);have n3_ := aM (IsS91.below (by repeat (first | (with_reducible first | exact HI0.out | apply IsS91.alloc | apply IsS91.drewN | apply IsS91.drew | apply IsS91.set_1 | apply IsS91.set_2 | refine IsS91.far ?_ NB0_481.out _ | refine IsS91.far ?_ NB0_498.out _) | exact HI0.out)) hb);have n4_ := aM (KeepBut.trans (by exact kK) (KeepBut.of_below hb g none) (.inl rfl));have n5_ := aM (below_step (by exact bB) hb);clear HO_499001;clear BK481;clear BK498;clear HI0;clear HK;clear HB;have HO_499001 := n0_;have BK481 := n1_;have BK498 := n2_;have HI0 := n3_;have HK := n4_;have HB := n5_;clear n0_ n1_ n2_ n3_ n4_ n5_;(try clear hb);(try clear hb2);(try clear hk);(try clear hi);have hcz143_0 := bC0 BK498.out;have hcz143_1 := bC1 BK498.out;have hfz143_0 := blk_frozen BK498.out 0;have hfz143_1 := blk_frozen BK498.out 1) | ((with_reducible refine gate_callee (f := 135) rfl ?_);refine goesL_ (some 82) rfl rfl Try.func135 (by kernel_rfl) rfl #[.slice Ao141 x499001_4.length co141, .agg #[.int .i64 t560, .int .i64 x9_3]] rfl mM ?_;(with_reducible refine (spec_l2Put.calls k4 _ _ x499001_4 t560 x9_3 t564 _ ?side1 ?side2 A136.out).mono ?_);(case side1 => exact cP (Kd.R_reads' HO_499001.out).2.2);(case side2 => exact (Kd.R_reads' HO_499001.out).2.1);rintro e w144 ⟨v565, rfl, ho0, hb⟩;refine ⟨_, rfl, ?_⟩;have n0_ := aM (Kd.R_elder' (by exact rP HO_499001.out) (Kd.R_base ho0) hb);have n1_ := aM (Kd.R_lower (Kd.R_new' ho0 (Kd.R_lt (by exact rP HO_499001.out))) (keep_size (w := w) (g := g) (row := none) (by exact kK)));have n2_ := aM (kB hb BK481.out);have n3_ := aM (kB hb BK498.out);have n4_ := aM (IsS91.below (by repeat (first | (with_reducible first | exact HI0.out | apply IsS91.alloc | apply IsS91.drewN | apply IsS91.drew | apply IsS91.set_1 | apply IsS91.set_2 | refine IsS91.far ?_ NB0_481.out _ | refine IsS91.far ?_ NB0_498.out _) | exact HI0.out)) hb);have n5_ := aM (KeepBut.trans (by exact kK) (KeepBut.of_below hb g none) (.inl rfl));have n6_ := aM (below_step (by exact bB) hb);clear HO_499001;clear BK481;clear BK498;clear HI0;clear HK;clear HB;have HO_499001 := n0_;have HO566 := n1_;have BK481 := n2_;have BK498 := n3_;have HI0 := n4_;have HK := n5_;have HB := n6_;clear n0_ n1_ n2_ n3_ n4_ n5_ n6_;(try clear hb);(try clear hb2);(try clear hk);(try clear hi);(try clear ho0);obtain ⟨Ao145, co145, eo145⟩ := Kd.R_slice HO566.out;subst eo145;have hcz146_0 := bC0 BK498.out;have hcz146_1 := bC1 BK498.out;have hfz146_0 := blk_frozen BK498.out 0;have hfz146_1 := blk_frozen BK498.out 1))
         go_roundg k4
         case measure => have := HJ3.out;have := HJ12.out;have := HK3.out;have := HK4.out;omega
         case rel => exact ⟨(wrap64 (x9_3 + 1)), (t561), (t562), (t564), (.slice Ao145 t564.length co145), (by first | rfl | (simp;done) | (simp [*];done)), H', ⟨by have := HJ3.out;have := HJ12.out;have := HK3.out;have := HK4.out;omega⟩, ⟨by refine rP ?_;exact Kd.R_mono (Kd.R_far (p := ⟨gb498, 1, none⟩) (Kd.R_types HO566.out BK498.out (by decide)) (fun _ hk => hk.2) (.slice Ao145 t564.length co145)) (fun _ hk => trivial)⟩, ⟨by refine kP ?_;refine blk_far ?_ NB481_498.out _;exact kP BK481.out⟩, ⟨by refine kP ?_;refine blk_put (cs := #[.int .i64 t494, .slice Ao141 x499001_4.length co141]) ?_ 1 _ rfl;exact kP BK498.out⟩, ⟨by exact sS⟩, ⟨by exact kK⟩, ⟨by exact bB⟩⟩


end Go.Proofs.Ytmokkhfmbenleaa.QSpreading
