import Derived.Test.YtmokkhfmbenleaaQClosures0
import Derived.Test.YtmokkhfmbenleaaQClosures1
import Derived.Test.YtmokkhfmbenleaaQClosures5
import Derived.Test.YtmokkhfmbenleaaQClosures6
import Derived.Test.YtmokkhfmbenleaaQClosures7
import Derived.Test.YtmokkhfmbenleaaQClosures8
import Derived.Test.YtmokkhfmbenleaaQClosures9
namespace Go.Proofs.Ytmokkhfmbenleaa.QClosures
open Go.RowKit Go.Proofs.YtmokkhfmbenleaaW.PrintWords Go.Proofs.YtmokkhfmbenleaaW.PrintLast Go.Proofs.YtmokkhfmbenleaaW.PrintMore
attribute [local go_sem] max2_int min2_int max_two min_two max_three min_three max_four min_four   -- for this text's walks alone
set_option linter.unusedVariables false
set_option linter.unusedSimpArgs false
/-! ### spec_l1Cur_someGraph: function 79 -/
mutual
def spec_l1Cur_someGraph.j0 : Nat → Int → Int → Bool → List Int → Int → Int → Option (Int × (List (S119)) × Int × Int)
 | 0, _, _, _, _, _, _ => none
 | k + 1, x1, x5, x20, x1000, x1001, x1002 => if x20 = true then ((spec_l1Cur_pick.f x1000 x1001 x1002 2).bind fun bt518 => (spec_l1Cur_someGraph.j1 k x1 (wrap64 (7 + bt518.1)) x1000 bt518.2.1 bt518.2.2)) else (spec_l1Cur_someGraph.j1 k x1 x5 x1000 x1001 x1002)
def spec_l1Cur_someGraph.j1 : Nat → Int → Int → List Int → Int → Int → Option (Int × (List (S119)) × Int × Int)
 | 0, _, _, _, _, _ => none
 | k + 1, x1, x5, x1000, x1001, x1002 => (spec_l1Least.f x5 x1).bind fun t521 => ((some (([] : List (S119)) : List (S119))).bind fun y522 => ((spec_l1Cur_pick.f x1000 x1001 x1002 8).bind fun bt526 => (if bt526.1 = 0 then ((spec_l2Path.f k t521).bind fun bt529 => ((spec_l1Cur_marred.f x1000 bt526.2.1 bt526.2.2 bt529.1 bt529.2).bind fun bt533 => (some (bt533.1, bt533.2.1, bt533.2.2.1, bt533.2.2.2)))) else (if bt526.1 = 1 then (if t521 > 2 then ((spec_l2Cycle.f k t521).bind fun bt539 => ((spec_l1Cur_marred.f x1000 bt526.2.1 bt526.2.2 bt539.1 bt539.2).bind fun bt543 => (some (bt543.1, bt543.2.1, bt543.2.2.1, bt543.2.2.2)))) else ((spec_l1Cur_marred.f x1000 bt526.2.1 bt526.2.2 t521 y522).bind fun bt549 => (some (bt549.1, bt549.2.1, bt549.2.2.1, bt549.2.2.2)))) else (if bt526.1 = 2 then ((spec_l2Complete.f k t521).bind fun bt555 => ((spec_l1Cur_marred.f x1000 bt526.2.1 bt526.2.2 bt555.1 bt555.2).bind fun bt559 => (some (bt559.1, bt559.2.1, bt559.2.2.1, bt559.2.2.2)))) else ((spec_l1Cur_among.f x1000 bt526.2.1 bt526.2.2 (([3, 4, 6] : List Int))).bind fun bt568 => ((spec_l1Cur_one.f x1000 bt568.2.1 bt568.2.2 6).bind fun bt571 => (spec_l1Cur_someGraph.l0 k t521 bt568.1 bt571.1 0 x1000 bt571.2.1 bt571.2.2 t521 y522))))))))
def spec_l1Cur_someGraph.l0 : Nat → Int → Int → Bool → Int → List Int → Int → Int → Int → List (S119) → Option (Int × (List (S119)) × Int × Int)
 | 0, _, _, _, _, _, _, _, _, _ => none
 | k + 1, x5, x7, x8, x9, x1000, x1001, x1002, x526000, x526001 => if x9 < x5 then (spec_l1Cur_someGraph.l1 k x5 x7 x8 x9 (wrap64 (x9 + 1)) x1000 x1001 x1002 x526000 x526001) else ((spec_l1Cur_marred.f x1000 x1001 x1002 x526000 x526001).bind fun bt574 => (some (bt574.1, bt574.2.1, bt574.2.2.1, bt574.2.2.2)))
def spec_l1Cur_someGraph.l1 : Nat → Int → Int → Bool → Int → Int → List Int → Int → Int → Int → List (S119) → Option (Int × (List (S119)) × Int × Int)
 | 0, _, _, _, _, _, _, _, _, _, _ => none
 | k + 1, x5, x7, x8, x9, x10, x1000, x1001, x1002, x526000, x526001 => if x10 < x5 then ((spec_l1Cur_pick.f x1000 x1001 x1002 x7).bind fun bt580 => (if bt580.1 = 0 then ((spec_l2Put.f k x526001 x9 x10).bind fun t583 => (spec_l1Cur_someGraph.l1 k x5 x7 x8 x9 (wrap64 (x10 + 1)) x1000 bt580.2.1 bt580.2.2 x526000 t583)) else (spec_l1Cur_someGraph.l1 k x5 x7 x8 x9 (wrap64 (x10 + 1)) x1000 bt580.2.1 bt580.2.2 x526000 x526001))) else ((spec_l1Most.f x9 1).bind fun t586 => ((spec_l1Cur_pick.f x1000 x1001 x1002 t586).bind fun bt587 => (if x9 > 0 then (if x8 = true then (spec_l1Cur_someGraph.l0 k x5 x7 x8 (wrap64 (x9 + 1)) x1000 bt587.2.1 bt587.2.2 x526000 x526001) else ((spec_l2Near.f k x526000 x526001 x9 bt587.1).bind fun t590 => (if t590 = true then (spec_l1Cur_someGraph.l0 k x5 x7 x8 (wrap64 (x9 + 1)) x1000 bt587.2.1 bt587.2.2 x526000 x526001) else ((spec_l2Put.f k x526001 bt587.1 x9).bind fun t591 => (spec_l1Cur_someGraph.l0 k x5 x7 x8 (wrap64 (x9 + 1)) x1000 bt587.2.1 bt587.2.2 x526000 t591))))) else (spec_l1Cur_someGraph.l0 k x5 x7 x8 (wrap64 (x9 + 1)) x1000 bt587.2.1 bt587.2.2 x526000 x526001))))
end
def spec_l1Cur_someGraph.f (k : Nat) (s0_0 : List Int) (s0_1 : Int) (s0_2 : Int) (a1 : Int) : Option (Int × (List (S119)) × Int × Int) := (spec_l1Cur_among.f s0_0 s0_1 s0_2 (([4, 5, 3, 6, 2, 1, 0] : List Int))).bind fun bt512 => (if a1 > 6 then ((spec_l1Cur_one.f s0_0 bt512.2.1 bt512.2.2 4).bind fun bt515 => (spec_l1Cur_someGraph.j0 k a1 bt512.1 bt515.1 s0_0 bt515.2.1 bt515.2.2)) else (spec_l1Cur_someGraph.j0 k a1 bt512.1 false s0_0 bt512.2.1 bt512.2.2))
theorem spec_l1Cur_someGraph.mono_l : ∀ k, (∀ y0 y1 y2 y3 y4 y5, LeO (spec_l1Cur_someGraph.j0 k y0 y1 y2 y3 y4 y5) (spec_l1Cur_someGraph.j0 (k + 1) y0 y1 y2 y3 y4 y5)) ∧ (∀ y0 y1 y2 y3 y4, LeO (spec_l1Cur_someGraph.j1 k y0 y1 y2 y3 y4) (spec_l1Cur_someGraph.j1 (k + 1) y0 y1 y2 y3 y4)) ∧ (∀ y0 y1 y2 y3 y4 y5 y6 y7 y8, LeO (spec_l1Cur_someGraph.l0 k y0 y1 y2 y3 y4 y5 y6 y7 y8) (spec_l1Cur_someGraph.l0 (k + 1) y0 y1 y2 y3 y4 y5 y6 y7 y8)) ∧ (∀ y0 y1 y2 y3 y4 y5 y6 y7 y8 y9, LeO (spec_l1Cur_someGraph.l1 k y0 y1 y2 y3 y4 y5 y6 y7 y8 y9) (spec_l1Cur_someGraph.l1 (k + 1) y0 y1 y2 y3 y4 y5 y6 y7 y8 y9))
 | 0 => ⟨fun _ _ _ _ _ _ r h => by simp [spec_l1Cur_someGraph.j0] at h, fun _ _ _ _ _ r h => by simp [spec_l1Cur_someGraph.j1] at h, fun _ _ _ _ _ _ _ _ _ r h => by simp [spec_l1Cur_someGraph.l0] at h, fun _ _ _ _ _ _ _ _ _ _ r h => by simp [spec_l1Cur_someGraph.l1] at h⟩
 | k + 1 => by
  obtain ⟨ih0, ih1, ih2, ih3⟩ := spec_l1Cur_someGraph.mono_l k
  refine ⟨?_, ?_, ?_, ?_⟩
  ·intro y0 y1 y2 y3 y4 y5
   unfold spec_l1Cur_someGraph.j0
   repeat' first
   | (with_reducible exact ih0 _ _ _ _ _ _)
   | (with_reducible exact ih1 _ _ _ _ _)
   | (with_reducible exact ih2 _ _ _ _ _ _ _ _ _)
   | (with_reducible exact ih3 _ _ _ _ _ _ _ _ _ _)
   | (with_reducible exact spec_l2Complete.mono _ _)
   | (with_reducible exact spec_l2Cycle.mono _ _)
   | (with_reducible exact spec_l2Near.mono _ _ _ _ _)
   | (with_reducible exact spec_l2Path.mono _ _)
   | (with_reducible exact spec_l2Put.mono _ _ _ _)
   | (with_reducible exact LeO.refl _)
   | (with_reducible exact LeO.none _)
   | (with_reducible refine LeO.ite ?_ ?_)
   | (with_reducible refine LeO.bind ?_ (fun _ => ?_))
   | exact ih0 _ _ _ _ _ _
   | exact ih1 _ _ _ _ _
   | exact ih2 _ _ _ _ _ _ _ _ _
   | exact ih3 _ _ _ _ _ _ _ _ _ _
   | exact spec_l2Complete.mono _ _
   | exact spec_l2Cycle.mono _ _
   | exact spec_l2Near.mono _ _ _ _ _
   | exact spec_l2Path.mono _ _
   | exact spec_l2Put.mono _ _ _ _
   | exact LeO.none _
   | refine LeO.ite ?_ ?_
   | refine LeO.bind ?_ (fun _ => ?_)
  ·intro y0 y1 y2 y3 y4
   unfold spec_l1Cur_someGraph.j1
   repeat' first
   | (with_reducible exact ih0 _ _ _ _ _ _)
   | (with_reducible exact ih1 _ _ _ _ _)
   | (with_reducible exact ih2 _ _ _ _ _ _ _ _ _)
   | (with_reducible exact ih3 _ _ _ _ _ _ _ _ _ _)
   | (with_reducible exact spec_l2Complete.mono _ _)
   | (with_reducible exact spec_l2Cycle.mono _ _)
   | (with_reducible exact spec_l2Near.mono _ _ _ _ _)
   | (with_reducible exact spec_l2Path.mono _ _)
   | (with_reducible exact spec_l2Put.mono _ _ _ _)
   | (with_reducible exact LeO.refl _)
   | (with_reducible exact LeO.none _)
   | (with_reducible refine LeO.ite ?_ ?_)
   | (with_reducible refine LeO.bind ?_ (fun _ => ?_))
   | exact ih0 _ _ _ _ _ _
   | exact ih1 _ _ _ _ _
   | exact ih2 _ _ _ _ _ _ _ _ _
   | exact ih3 _ _ _ _ _ _ _ _ _ _
   | exact spec_l2Complete.mono _ _
   | exact spec_l2Cycle.mono _ _
   | exact spec_l2Near.mono _ _ _ _ _
   | exact spec_l2Path.mono _ _
   | exact spec_l2Put.mono _ _ _ _
   | exact LeO.none _
   | refine LeO.ite ?_ ?_
   | refine LeO.bind ?_ (fun _ => ?_)
  ·intro y0 y1 y2 y3 y4 y5 y6 y7 y8
   unfold spec_l1Cur_someGraph.l0
   repeat' first
   | (with_reducible exact ih0 _ _ _ _ _ _)
   | (with_reducible exact ih1 _ _ _ _ _)
   | (with_reducible exact ih2 _ _ _ _ _ _ _ _ _)
   | (with_reducible exact ih3 _ _ _ _ _ _ _ _ _ _)
   | (with_reducible exact spec_l2Complete.mono _ _)
   | (with_reducible exact spec_l2Cycle.mono _ _)
   | (with_reducible exact spec_l2Near.mono _ _ _ _ _)
   | (with_reducible exact spec_l2Path.mono _ _)
   | (with_reducible exact spec_l2Put.mono _ _ _ _)
   | (with_reducible exact LeO.refl _)
   | (with_reducible exact LeO.none _)
   | (with_reducible refine LeO.ite ?_ ?_)
   | (with_reducible refine LeO.bind ?_ (fun _ => ?_))
   | exact ih0 _ _ _ _ _ _
   | exact ih1 _ _ _ _ _
   | exact ih2 _ _ _ _ _ _ _ _ _
   | exact ih3 _ _ _ _ _ _ _ _ _ _
   | exact spec_l2Complete.mono _ _
   | exact spec_l2Cycle.mono _ _
   | exact spec_l2Near.mono _ _ _ _ _
   | exact spec_l2Path.mono _ _
   | exact spec_l2Put.mono _ _ _ _
   | exact LeO.none _
   | refine LeO.ite ?_ ?_
   | refine LeO.bind ?_ (fun _ => ?_)
  ·intro y0 y1 y2 y3 y4 y5 y6 y7 y8 y9
   unfold spec_l1Cur_someGraph.l1
   repeat' first
   | (with_reducible exact ih0 _ _ _ _ _ _)
   | (with_reducible exact ih1 _ _ _ _ _)
   | (with_reducible exact ih2 _ _ _ _ _ _ _ _ _)
   | (with_reducible exact ih3 _ _ _ _ _ _ _ _ _ _)
   | (with_reducible exact spec_l2Complete.mono _ _)
   | (with_reducible exact spec_l2Cycle.mono _ _)
   | (with_reducible exact spec_l2Near.mono _ _ _ _ _)
   | (with_reducible exact spec_l2Path.mono _ _)
   | (with_reducible exact spec_l2Put.mono _ _ _ _)
   | (with_reducible exact LeO.refl _)
   | (with_reducible exact LeO.none _)
   | (with_reducible refine LeO.ite ?_ ?_)
   | (with_reducible refine LeO.bind ?_ (fun _ => ?_))
   | exact ih0 _ _ _ _ _ _
   | exact ih1 _ _ _ _ _
   | exact ih2 _ _ _ _ _ _ _ _ _
   | exact ih3 _ _ _ _ _ _ _ _ _ _
   | exact spec_l2Complete.mono _ _
   | exact spec_l2Cycle.mono _ _
   | exact spec_l2Near.mono _ _ _ _ _
   | exact spec_l2Path.mono _ _
   | exact spec_l2Put.mono _ _ _ _
   | exact LeO.none _
   | refine LeO.ite ?_ ?_
   | refine LeO.bind ?_ (fun _ => ?_)
theorem spec_l1Cur_someGraph.mono : ∀ a0 a1 a2 a3 k, LeO (spec_l1Cur_someGraph.f k a0 a1 a2 a3) (spec_l1Cur_someGraph.f (k + 1) a0 a1 a2 a3) := by
 intro a0 a1 a2 a3 k
 obtain ⟨ih0, ih1, ih2, ih3⟩ := spec_l1Cur_someGraph.mono_l k
 unfold spec_l1Cur_someGraph.f
 repeat' first
   | (with_reducible exact ih0 _ _ _ _ _ _)
   | (with_reducible exact ih1 _ _ _ _ _)
   | (with_reducible exact ih2 _ _ _ _ _ _ _ _ _)
   | (with_reducible exact ih3 _ _ _ _ _ _ _ _ _ _)
   | (with_reducible exact spec_l2Complete.mono _ _)
   | (with_reducible exact spec_l2Cycle.mono _ _)
   | (with_reducible exact spec_l2Near.mono _ _ _ _ _)
   | (with_reducible exact spec_l2Path.mono _ _)
   | (with_reducible exact spec_l2Put.mono _ _ _ _)
   | (with_reducible exact LeO.refl _)
   | (with_reducible exact LeO.none _)
   | (with_reducible refine LeO.ite ?_ ?_)
   | (with_reducible refine LeO.bind ?_ (fun _ => ?_))
   | exact ih0 _ _ _ _ _ _
   | exact ih1 _ _ _ _ _
   | exact ih2 _ _ _ _ _ _ _ _ _
   | exact ih3 _ _ _ _ _ _ _ _ _ _
   | exact spec_l2Complete.mono _ _
   | exact spec_l2Cycle.mono _ _
   | exact spec_l2Near.mono _ _ _ _ _
   | exact spec_l2Path.mono _ _
   | exact spec_l2Put.mono _ _ _ _
   | exact LeO.none _
   | refine LeO.ite ?_ ?_
   | refine LeO.bind ?_ (fun _ => ?_)
set_option maxHeartbeats 8000000 in
set_option maxRecDepth 100000 in
theorem spec_l1Cur_someGraph.calls (k : Nat) (g : Nat) (s0_0 : List Int) (s0_1 : Int) (s0_2 : Int) (a1 : Int) (r1 : Int) (r2 : List (S119)) (r3 : Int) (r4 : Int) (w0 w : World) (hI : IsS91 w0 w g s0_0 s0_1 s0_2) (hB : Below w0.heap.size w0 w) (h : spec_l1Cur_someGraph.f k s0_0 s0_1 s0_2 a1 = some (r1, r2, r3, r4)) :
  Calls Try.prog 79 #[.pointer (some ⟨g, 0, none⟩), .int .i64 a1] w fun e w' => ∃ v1_ : Value, e = .returned (.agg #[.int .i64 r1, v1_]) ∧ Kd.R k119 119 w' w.heap.size (fun _ => True) v1_ r2 ∧ IsS91 w0 w' g s0_0 r3 r4 ∧ Below w0.heap.size w0 w' ∧ KeepBut w w' g none := by
 have hu31 := Try.underlying31
 have hu119 := Try.underlying119
 have HI0 := Aside0.mk hI
 have HK := Aside0.mk (KeepBut.refl w g none)
 have HL := Aside0.mk hB.size
 clear hI
 have HW0 := Aside0.mk hB.size
 have HB := Aside0.mk hB
 clear hB
 have H : ((spec_l1Cur_among.f s0_0 s0_1 s0_2 (([4, 5, 3, 6, 2, 1, 0] : List Int))).bind fun bt512 => (if a1 > 6 then ((spec_l1Cur_one.f s0_0 bt512.2.1 bt512.2.2 4).bind fun bt515 => (spec_l1Cur_someGraph.j0 k a1 bt512.1 bt515.1 s0_0 bt515.2.1 bt515.2.2)) else (spec_l1Cur_someGraph.j0 k a1 bt512.1 false s0_0 bt512.2.1 bt512.2.2))) = some (r1, r2, r3, r4) := h
 clear h
 obtain ⟨y509, hy509⟩ : ∃ y_ : List Int, y_ = (([4, 5, 3, 6, 2, 1, 0] : List Int)) := ⟨_, rfl⟩
 replace H : ((spec_l1Cur_among.f s0_0 s0_1 s0_2 y509).bind fun bt512 => (if a1 > 6 then ((spec_l1Cur_one.f s0_0 bt512.2.1 bt512.2.2 4).bind fun bt515 => (spec_l1Cur_someGraph.j0 k a1 bt512.1 bt515.1 s0_0 bt515.2.1 bt515.2.2)) else (spec_l1Cur_someGraph.j0 k a1 bt512.1 false s0_0 bt512.2.1 bt512.2.2))) = some (r1, r2, r3, r4) := by first | (rw [hy509]; with_reducible exact H) | (have H2_ := (Option.bind_some _ _).symm.trans H; rw [hy509]; with_reducible exact H2_) | (have H2_ := (Option.bind_some _ _).symm.trans H; with_reducible exact H2_) | with_reducible exact H | (rw [hy509]; exact H) | exact H
 have Ny509 := Aside0.mk hy509
 clear hy509
 replace H := Option.bind_eq_some_iff.mp H
 obtain ⟨⟨t512, t513, t514⟩, A30, H⟩ := H
 replace H : (if a1 > 6 then ((spec_l1Cur_one.f s0_0 t513 t514 4).bind fun bt515 => (spec_l1Cur_someGraph.j0 k a1 t512 bt515.1 s0_0 bt515.2.1 bt515.2.2)) else (spec_l1Cur_someGraph.j0 k a1 t512 false s0_0 t513 t514)) = some (r1, r2, r3, r4) := H
 have A3 := Aside0.mk A30
 clear A30
 have HC4 := Aside0.mk H
 clear H
 go_enter Try.func79, Try.ntmps79
 go_upto_region 2 with (first | ((with_reducible refine gate_dst (N := 4) rfl ?_); refine box_event ?hg (N := 4) ?hd (cs := #[.int .i64 0, .slice none 0 0]) (t := 31) ?hr ?_; (case hd => rfl); (case hg => rfl); (case hr => first | (go_simp; done) | (go_simp; rfl)); intro gb508 hg w5 hbox hb; have n0_ := Aside0.mk (IsS91.below (by repeat (first | (with_reducible first | exact HI0.out | apply IsS91.alloc | apply IsS91.drewN | apply IsS91.drew | apply IsS91.set_1 | apply IsS91.set_2) | exact HI0.out)) hb); have n1_ := Aside0.mk (KeepBut.trans (by exact kK) (KeepBut.of_below hb g none) (.inl rfl)); have n2_ := Aside0.mk (below_step (by exact bB) hb); have n3_ := Aside0.mk (hbox); have n4_ := Aside0.mk ((by rw [hg]; exact (keep_size (w := w) (g := g) (row := none) (by exact kK)) : w.heap.size ≤ gb508)); have n5_ := Aside0.mk ((Nat.le_trans HW0.out (by rw [hg]; exact (keep_size (w := w) (g := g) (row := none) (by exact kK)) : w.heap.size ≤ gb508) : w0.heap.size ≤ gb508)); have n6_ := Aside0.mk ((by rw [hg]; exact Nat.ne_of_lt (IsS91.lt (show IsS91 w0 _ g s0_0 s0_1 s0_2 from by exact sS)) : g ≠ gb508)); have n7_ := Aside0.mk ((by rw [hg]; exact Nat.ne_of_gt (IsS91.lt (show IsS91 w0 _ g s0_0 s0_1 s0_2 from by exact sS)) : gb508 ≠ g)); clear HI0; clear HK; clear HB; have HI0 := n0_; have HK := n1_; have HB := n2_; have BK508 := n3_; have GW508 := n4_; have GE508 := n5_; have NB0_508 := n6_; have NB508_0 := n7_; clear n0_ n1_ n2_ n3_ n4_ n5_ n6_ n7_; clear hb hbox hg) | ((with_reducible refine gate_dst (N := 13) rfl ?_); refine Kd.R_lit (Kd.int .i64) _ 3 ?hg (N := 13) ?hd (xs := ([4, 5, 3, 6, 2, 1, 0] : List Int)) (inner := [.int .i64 4, .int .i64 5, .int .i64 3, .int .i64 6, .int .i64 2, .int .i64 1, .int .i64 0]) (ok := fun _ => True) (okp := fun _ => True) ?hr ?hp (fun _ hk => hk) trivial (Below.refl _ _) (Nat.le_refl _) (by simp) ?_; (case hd => rfl); (case hg => rfl); (case hr => first | (go_simp; done) | (go_simp; rfl)); (case hp => exact (Reps.one (show Kd.M (Kd.int .i64) _ _ _ 4 [.int .i64 4] from rfl) (Reps.one (show Kd.M (Kd.int .i64) _ _ _ 5 [.int .i64 5] from rfl) (Reps.one (show Kd.M (Kd.int .i64) _ _ _ 3 [.int .i64 3] from rfl) (Reps.one (show Kd.M (Kd.int .i64) _ _ _ 6 [.int .i64 6] from rfl) (Reps.one (show Kd.M (Kd.int .i64) _ _ _ 2 [.int .i64 2] from rfl) (Reps.one (show Kd.M (Kd.int .i64) _ _ _ 1 [.int .i64 1] from rfl) (Reps.one (show Kd.M (Kd.int .i64) _ _ _ 0 [.int .i64 0] from rfl) (Reps.none _ _))))))))); intro v510 w6 ho7 hb hg_ hnew_; clear hg_ hnew_; (first | rw [← Ny509.out] at ho7 | (simp only [Int.reduceToNat] at ho7; rw [← Ny509.out] at ho7)); have n0_ := Aside0.mk (Kd.R_lower ho7 (keep_size (w := w) (g := g) (row := none) (by exact kK))); have n1_ := Aside0.mk (IsS91.below (by repeat (first | (with_reducible first | exact HI0.out | apply IsS91.alloc | apply IsS91.drewN | apply IsS91.drew | apply IsS91.set_1 | apply IsS91.set_2 | refine IsS91.far ?_ NB0_508.out _) | exact HI0.out)) hb); have n2_ := Aside0.mk (blk_below (g := gb508) (o := .cells #[.int .i64 0, .slice none 0 0] 31 (0, 0)) (by exact kP BK508.out) hb); have n3_ := Aside0.mk (KeepBut.trans (by exact kK) (KeepBut.of_below hb g none) (.inl rfl)); have n4_ := Aside0.mk (below_step (by exact bB) hb); clear HI0; clear BK508; clear HK; clear HB; have HO511 := n0_; have HI0 := n1_; have BK508 := n2_; have HK := n3_; have HB := n4_; clear n0_ n1_ n2_ n3_ n4_; clear hb ho7; obtain ⟨Ao8, co8, eo8⟩ := Kd.R_slice HO511.out; subst eo8) | ((with_reducible refine gate_callee (f := 129) rfl ?_); refine goesL_ (some 14) rfl rfl Try.func129 (by kernel_rfl) rfl #[.pointer (some ⟨g, 0, none⟩), .slice Ao8 y509.length co8] rfl (by (try simp only [List.map_toArray, List.map_cons, List.map_nil]); first | done | rfl | (simp only [List.length_drop, List.length_take]; rfl)) ?_; (with_reducible refine (spec_l1Cur_among.calls g s0_0 s0_1 s0_2 _ _ y509 t512 t513 t514 w0 _ ?side1 ?side2 ?side3 ?side4 ?side5 A3.out).mono ?_); (case side1 => exact sS); (case side2 => exact bB); (case side3 => exact cP (Kd.R_reads' HO511.out).2.2); (case side4 => exact (Kd.R_reads' HO511.out).2.1); (case side5 => exact far_slice (IsS91.own_ne HI0.out HO511.out (by decide))); rintro e w9 ⟨rfl, hi, hb, hk⟩; refine ⟨_, rfl, ?_⟩; have n0_ := Aside0.mk (KeepBut.blk hk (g' := gb508) (o := .cells #[.int .i64 0, .slice none 0 0] 31 (0, 0)) (by exact kP BK508.out) NB508_0.out (by simp)); have n1_ := Aside0.mk (Kd.R_mono (Kd.R_keep (IsS91.apart (show IsS91 w0 _ g s0_0 s0_1 s0_2 from by exact sS) (by exact rP HO511.out) (by decide)) hk (fun _ h => h.2)) (fun _ h => h.1)); have n2_ := Aside0.mk (KeepBut.trans (by exact kK) hk (.inl rfl)); have n3_ := Aside0.mk (hb); have n4_ := Aside0.mk (hi); clear BK508; clear HO511; clear HK; clear HB; clear HI0; have BK508 := n0_; have HO511 := n1_; have HK := n2_; have HB := n3_; have HI0 := n4_; clear n0_ n1_ n2_ n3_ n4_; (try clear hb); (try clear hb2); (try clear hk); (try clear hi)))
 (try simp only [Act.put, List.setIfInBounds_toArray, List.set_cons_zero, List.set_cons_succ])
 go_cut [20] (fun v20 wc => ∃ (kq : Nat) (x20_3 : Bool) (x1001_3 : Int) (x1002_3 : Int), v20 = .bool x20_3 ∧ Aside0 (spec_l1Cur_someGraph.j0 kq a1 t512 x20_3 s0_0 x1001_3 x1002_3 = some (r1, r2, r3, r4)) ∧ Aside0 (kq ≤ k) ∧ Aside0 (wc.heap[gb508]? = some (.cells #[.int .i64 0, (.slice none 0 0)] 31 (0, 0))) ∧ Aside0 (IsS91 w0 wc g s0_0 x1001_3 x1002_3) ∧ Aside0 (KeepBut w wc g none) ∧ Aside0 (Below w0.heap.size w0 wc))
 case first =>
  have H := HC4.out
  clear HC4
  by_cases c10 : a1 > 6
  ·rw [if_pos c10] at H
   have c10b0 : decide (6 < a1) = true := decide_eq_true c10
   clear c10
   (first | rw [c10b0] | (simp only [i64_w, i32_w]; rw [c10b0]) | skip)
   replace H := Option.bind_eq_some_iff.mp H
   obtain ⟨⟨t515, t516, t517⟩, A110, H⟩ := H
   replace H : (spec_l1Cur_someGraph.j0 k a1 t512 t515 s0_0 t516 t517) = some (r1, r2, r3, r4) := H
   have A11 := Aside0.mk A110
   clear A110
   have H' := Aside0.mk H
   clear H
   go_wp2_with (first | (go_at_call 130; (with_reducible refine (spec_l1Cur_one.calls g s0_0 t513 t514 4 t515 t516 t517 w0 _ ?side1 ?side2 A11.out).mono ?_); (case side1 => exact sS); (case side2 => exact bB); rintro e w12 ⟨rfl, hi, hb, hk⟩; have n0_ := Aside0.mk (KeepBut.blk hk (g' := gb508) (o := .cells #[.int .i64 0, .slice none 0 0] 31 (0, 0)) (by exact kP BK508.out) NB508_0.out (by simp)); have n1_ := Aside0.mk (Kd.R_mono (Kd.R_keep (IsS91.apart (show IsS91 w0 _ g s0_0 t513 t514 from by exact sS) (by exact rP HO511.out) (by decide)) hk (fun _ h => h.2)) (fun _ h => h.1)); have n2_ := Aside0.mk (KeepBut.trans (by exact kK) hk (.inl rfl)); have n3_ := Aside0.mk (hb); have n4_ := Aside0.mk (hi); clear BK508; clear HO511; clear HK; clear HB; clear HI0; have BK508 := n0_; have HO511 := n1_; have HK := n2_; have HB := n3_; have HI0 := n4_; clear n0_ n1_ n2_ n3_ n4_; (try clear hb); (try clear hb2); (try clear hk); (try clear hi)))
   go_meet
   case rel => exact ⟨_, (t515), (t516), (t517), (by first | rfl | (simp; done) | (simp [*]; done)), H', ⟨by first | omega | exact Nat.le_refl _⟩, ⟨by exact kP BK508.out⟩, ⟨by exact sS⟩, ⟨by exact kK⟩, ⟨by exact bB⟩⟩
  ·rw [if_neg c10] at H
   have c10b0 : decide (6 < a1) = false := decide_eq_false c10
   clear c10
   (first | rw [c10b0] | (simp only [i64_w, i32_w]; rw [c10b0]) | skip)
   have H' := Aside0.mk H
   clear H
   go_wp2
   go_meet
   case rel => exact ⟨_, (false), (t513), (t514), (by first | rfl | (simp; done) | (simp [*]; done)), H', ⟨by first | omega | exact Nat.le_refl _⟩, ⟨by exact kP BK508.out⟩, ⟨by exact sS⟩, ⟨by exact kK⟩, ⟨by exact bB⟩⟩
 case rest =>
  clear HC4
  try clear c1
  try clear p2
  try clear c7
  try clear c10
  try clear c10b0
  try clear c12
  obtain ⟨kq, x20_3, x1001_3, x1002_3, rfl, HA, HJ3, BK508, HI0, HK, HB⟩ := hcut
  cases kq with
  | zero => exact absurd HA.out (by simp [spec_l1Cur_someGraph.j0])
  | succ kj3 =>
   have H := HA.out
   clear HA
   simp only [spec_l1Cur_someGraph.j0] at H
   have HC13 := Aside0.mk H
   clear H
   go_upto_if 20 with (fail)
   go_cut [5] (fun v5 wc => ∃ (kq : Nat) (x5_12 : Int) (x1001_12 : Int) (x1002_12 : Int), v5 = .int .i64 x5_12 ∧ Aside0 (spec_l1Cur_someGraph.j1 kq a1 x5_12 s0_0 x1001_12 x1002_12 = some (r1, r2, r3, r4)) ∧ Aside0 (kq ≤ kj3) ∧ Aside0 (wc.heap[gb508]? = some (.cells #[.int .i64 0, (.slice none 0 0)] 31 (0, 0))) ∧ Aside0 (IsS91 w0 wc g s0_0 x1001_12 x1002_12) ∧ Aside0 (KeepBut w wc g none) ∧ Aside0 (Below w0.heap.size w0 wc))
   case first =>
    have H := HC13.out
    clear HC13
    by_cases c14 : x20_3 = true
    ·subst c14
     have H1 : ((spec_l1Cur_pick.f s0_0 x1001_3 x1002_3 2).bind fun bt518 => (spec_l1Cur_someGraph.j1 kj3 a1 (wrap64 (7 + bt518.1)) s0_0 bt518.2.1 bt518.2.2)) = some (r1, r2, r3, r4) := by rw [if_pos rfl] at H; exact H
     clear H
     have H := H1
     clear H1
     replace H := Option.bind_eq_some_iff.mp H
     obtain ⟨⟨t518, t519, t520⟩, A150, H⟩ := H
     replace H : (spec_l1Cur_someGraph.j1 kj3 a1 (wrap64 (7 + t518)) s0_0 t519 t520) = some (r1, r2, r3, r4) := H
     have A15 := Aside0.mk A150
     clear A150
     have H' := Aside0.mk H
     clear H
     go_wp2_with (first | ((with_reducible refine gate_callee (f := 131) rfl ?_); refine goesL_ (some 22) rfl rfl Try.func131 (by kernel_rfl) rfl #[.pointer (some ⟨g, 0, none⟩), .int .i64 2] rfl (by (try simp only [List.map_toArray, List.map_cons, List.map_nil]); first | done | rfl | (simp only [List.length_drop, List.length_take]; rfl)) ?_; (with_reducible refine (spec_l1Cur_pick.calls g s0_0 x1001_3 x1002_3 2 t518 t519 t520 w0 _ ?side1 ?side2 A15.out).mono ?_); (case side1 => exact sS); (case side2 => exact bB); rintro e w16 ⟨rfl, hi, hb, hk⟩; refine ⟨_, rfl, ?_⟩; have n0_ := Aside0.mk (KeepBut.blk hk (g' := gb508) (o := .cells #[.int .i64 0, .slice none 0 0] 31 (0, 0)) (by exact kP BK508.out) NB508_0.out (by simp)); have n1_ := Aside0.mk (KeepBut.trans (by exact kK) hk (.inl rfl)); have n2_ := Aside0.mk (hb); have n3_ := Aside0.mk (hi); clear BK508; clear HK; clear HB; clear HI0; have BK508 := n0_; have HK := n1_; have HB := n2_; have HI0 := n3_; clear n0_ n1_ n2_ n3_; (try clear hb); (try clear hb2); (try clear hk); (try clear hi)))
     go_meet
     case rel => exact ⟨_, (wrap64 (7 + t518)), (t519), (t520), (by first | rfl | (simp; done) | (simp [*]; done)), H', ⟨by have := HJ3.out; first | omega | exact Nat.le_refl _⟩, ⟨by exact kP BK508.out⟩, ⟨by exact sS⟩, ⟨by exact kK⟩, ⟨by exact bB⟩⟩
    ·replace c14 := Bool.eq_false_iff.mpr c14
     subst c14
     have H1 : (spec_l1Cur_someGraph.j1 kj3 a1 t512 s0_0 x1001_3 x1002_3) = some (r1, r2, r3, r4) := by rw [if_neg (show ¬ (false = true) by decide)] at H; exact H
     clear H
     have H := H1
     clear H1
     have H' := Aside0.mk H
     clear H
     go_wp2
     go_meet
     case rel => exact ⟨_, (t512), (x1001_3), (x1002_3), (by first | rfl | (simp; done) | (simp [*]; done)), H', ⟨by have := HJ3.out; first | omega | exact Nat.le_refl _⟩, ⟨by exact kP BK508.out⟩, ⟨by exact sS⟩, ⟨by exact kK⟩, ⟨by exact bB⟩⟩
   case rest =>
    clear HC13
    try clear c1
    try clear p2
    try clear p6
    try clear c7
    try clear c10
    try clear c10b0
    try clear c12
    try clear c13
    try clear c14
    try clear p2
    obtain ⟨kq, x5_12, x1001_12, x1002_12, rfl, HA, HJ12, BK508, HI0, HK, HB⟩ := hcut
    cases kq with
    | zero => exact absurd HA.out (by simp [spec_l1Cur_someGraph.j1])
    | succ kj12 =>
     have H := HA.out
     clear HA
     simp only [spec_l1Cur_someGraph.j1] at H
     replace H := Option.bind_eq_some_iff.mp H
     obtain ⟨t521, A170, H⟩ := H
     replace H : ((some (([] : List (S119)) : List (S119))).bind fun y522 => ((spec_l1Cur_pick.f s0_0 x1001_12 x1002_12 8).bind fun bt526 => (if bt526.1 = 0 then ((spec_l2Path.f kj12 t521).bind fun bt529 => ((spec_l1Cur_marred.f s0_0 bt526.2.1 bt526.2.2 bt529.1 bt529.2).bind fun bt533 => (some (bt533.1, bt533.2.1, bt533.2.2.1, bt533.2.2.2)))) else (if bt526.1 = 1 then (if t521 > 2 then ((spec_l2Cycle.f kj12 t521).bind fun bt539 => ((spec_l1Cur_marred.f s0_0 bt526.2.1 bt526.2.2 bt539.1 bt539.2).bind fun bt543 => (some (bt543.1, bt543.2.1, bt543.2.2.1, bt543.2.2.2)))) else ((spec_l1Cur_marred.f s0_0 bt526.2.1 bt526.2.2 t521 y522).bind fun bt549 => (some (bt549.1, bt549.2.1, bt549.2.2.1, bt549.2.2.2)))) else (if bt526.1 = 2 then ((spec_l2Complete.f kj12 t521).bind fun bt555 => ((spec_l1Cur_marred.f s0_0 bt526.2.1 bt526.2.2 bt555.1 bt555.2).bind fun bt559 => (some (bt559.1, bt559.2.1, bt559.2.2.1, bt559.2.2.2)))) else ((spec_l1Cur_among.f s0_0 bt526.2.1 bt526.2.2 (([3, 4, 6] : List Int))).bind fun bt568 => ((spec_l1Cur_one.f s0_0 bt568.2.1 bt568.2.2 6).bind fun bt571 => (spec_l1Cur_someGraph.l0 kj12 t521 bt568.1 bt571.1 0 s0_0 bt571.2.1 bt571.2.2 t521 y522)))))))) = some (r1, r2, r3, r4) := H
     have A17 := Aside0.mk A170
     clear A170
     obtain ⟨y522, hy522⟩ : ∃ y_ : List (S119), y_ = (([] : List (S119))) := ⟨_, rfl⟩
     replace H : ((spec_l1Cur_pick.f s0_0 x1001_12 x1002_12 8).bind fun bt526 => (if bt526.1 = 0 then ((spec_l2Path.f kj12 t521).bind fun bt529 => ((spec_l1Cur_marred.f s0_0 bt526.2.1 bt526.2.2 bt529.1 bt529.2).bind fun bt533 => (some (bt533.1, bt533.2.1, bt533.2.2.1, bt533.2.2.2)))) else (if bt526.1 = 1 then (if t521 > 2 then ((spec_l2Cycle.f kj12 t521).bind fun bt539 => ((spec_l1Cur_marred.f s0_0 bt526.2.1 bt526.2.2 bt539.1 bt539.2).bind fun bt543 => (some (bt543.1, bt543.2.1, bt543.2.2.1, bt543.2.2.2)))) else ((spec_l1Cur_marred.f s0_0 bt526.2.1 bt526.2.2 t521 y522).bind fun bt549 => (some (bt549.1, bt549.2.1, bt549.2.2.1, bt549.2.2.2)))) else (if bt526.1 = 2 then ((spec_l2Complete.f kj12 t521).bind fun bt555 => ((spec_l1Cur_marred.f s0_0 bt526.2.1 bt526.2.2 bt555.1 bt555.2).bind fun bt559 => (some (bt559.1, bt559.2.1, bt559.2.2.1, bt559.2.2.2)))) else ((spec_l1Cur_among.f s0_0 bt526.2.1 bt526.2.2 (([3, 4, 6] : List Int))).bind fun bt568 => ((spec_l1Cur_one.f s0_0 bt568.2.1 bt568.2.2 6).bind fun bt571 => (spec_l1Cur_someGraph.l0 kj12 t521 bt568.1 bt571.1 0 s0_0 bt571.2.1 bt571.2.2 t521 y522))))))) = some (r1, r2, r3, r4) := by first | (rw [hy522]; with_reducible exact H) | (have H2_ := (Option.bind_some _ _).symm.trans H; rw [hy522]; with_reducible exact H2_) | (have H2_ := (Option.bind_some _ _).symm.trans H; with_reducible exact H2_) | with_reducible exact H | (rw [hy522]; exact H) | exact H
     have Ny522 := Aside0.mk hy522
     clear hy522
     replace H := Option.bind_eq_some_iff.mp H
     obtain ⟨⟨t526, t527, t528⟩, A180, H⟩ := H
     replace H : (if t526 = 0 then ((spec_l2Path.f kj12 t521).bind fun bt529 => ((spec_l1Cur_marred.f s0_0 t527 t528 bt529.1 bt529.2).bind fun bt533 => (some (bt533.1, bt533.2.1, bt533.2.2.1, bt533.2.2.2)))) else (if t526 = 1 then (if t521 > 2 then ((spec_l2Cycle.f kj12 t521).bind fun bt539 => ((spec_l1Cur_marred.f s0_0 t527 t528 bt539.1 bt539.2).bind fun bt543 => (some (bt543.1, bt543.2.1, bt543.2.2.1, bt543.2.2.2)))) else ((spec_l1Cur_marred.f s0_0 t527 t528 t521 y522).bind fun bt549 => (some (bt549.1, bt549.2.1, bt549.2.2.1, bt549.2.2.2)))) else (if t526 = 2 then ((spec_l2Complete.f kj12 t521).bind fun bt555 => ((spec_l1Cur_marred.f s0_0 t527 t528 bt555.1 bt555.2).bind fun bt559 => (some (bt559.1, bt559.2.1, bt559.2.2.1, bt559.2.2.2)))) else ((spec_l1Cur_among.f s0_0 t527 t528 (([3, 4, 6] : List Int))).bind fun bt568 => ((spec_l1Cur_one.f s0_0 bt568.2.1 bt568.2.2 6).bind fun bt571 => (spec_l1Cur_someGraph.l0 kj12 t521 bt568.1 bt571.1 0 s0_0 bt571.2.1 bt571.2.2 t521 y522)))))) = some (r1, r2, r3, r4) := H
     have A18 := Aside0.mk A180
     clear A180
     by_cases c19 : t526 = 0
     ·rw [if_pos c19] at H
      have c19b0 : (t526 == 0) = true := beq_iff_eq.mpr c19
      have c19b1 : (t526 != 0) = false := bne_eq_false_iff_eq.mpr c19
      clear c19
      replace H := Option.bind_eq_some_iff.mp H
      obtain ⟨⟨t529, t530⟩, A200, H⟩ := H
      replace H : ((spec_l1Cur_marred.f s0_0 t527 t528 t529 t530).bind fun bt533 => (some (bt533.1, bt533.2.1, bt533.2.2.1, bt533.2.2.2))) = some (r1, r2, r3, r4) := H
      have A20 := Aside0.mk A200
      clear A200
      replace H := Option.bind_eq_some_iff.mp H
      obtain ⟨⟨t533, t534, t537, t538⟩, A210, H⟩ := H
      replace H : (some (t533, t534, t537, t538)) = some (r1, r2, r3, r4) := H
      have A21 := Aside0.mk A210
      clear A210
      simp only [Option.some.injEq, Prod.mk.injEq] at H
      obtain ⟨rfl, rfl, rfl, rfl⟩ := H
      go_wp2_with (first | ((with_reducible refine gate_callee (f := 126) rfl ?_); refine goesL_ (some 26) rfl rfl Try.func126 (by kernel_rfl) rfl #[.int .i64 x5_12, .int .i64 a1] rfl (by (try simp only [List.map_toArray, List.map_cons, List.map_nil]); first | done | rfl | (simp only [List.length_drop, List.length_take]; rfl)) ?_; (with_reducible refine (spec_l1Least.calls x5_12 a1 t521 _ A17.out).mono ?_); rintro e w' ⟨rfl, ⟨nd, rfl⟩⟩; refine ⟨_, rfl, ?_⟩; (try (rw [drewN_self wc]; generalize hq_ : World.drewN wc _ = wc; have n0_ : Aside0 (wc.heap[gb508]? = some (.cells #[.int .i64 0, .slice none 0 0] 31 (0, 0))) := ⟨by rw [← hq_]; exact (by exact kP BK508.out)⟩; have n1_ : Aside0 (IsS91 w0 wc g s0_0 x1001_12 x1002_12) := ⟨by rw [← hq_]; exact (by exact sS)⟩; have n2_ : Aside0 (KeepBut w wc g none) := ⟨by rw [← hq_]; exact (by exact kK)⟩; have n3_ : Aside0 (Below w0.heap.size w0 wc) := ⟨by rw [← hq_]; exact (by exact bB)⟩; clear BK508 HI0 HK HB hq_; have BK508 := n0_; have HI0 := n1_; have HK := n2_; have HB := n3_; clear n0_ n1_ n2_ n3_))) | ((with_reducible refine gate_dst (N := 28) rfl ?_); refine Kd.R_lit k119 _ 119 ?hg (N := 28) ?hd (xs := ([] : List (S119))) (inner := []) (ok := fun _ => True) (okp := fun _ => True) ?hr ?hp (fun _ hk => hk) trivial (Below.refl _ _) (Nat.le_refl _) (by simp) ?_; (case hd => rfl); (case hg => rfl); (case hr => first | (go_simp; done) | (go_simp; rfl)); (case hp => exact (Reps.none _ _)); intro v523 w22 ho23 hb hg_ hnew_; clear hg_ hnew_; (first | rw [← Ny522.out] at ho23 | (simp only [Int.reduceToNat] at ho23; rw [← Ny522.out] at ho23)); have n0_ := Aside0.mk (Kd.R_lower ho23 (keep_size (w := w) (g := g) (row := none) (by exact kK))); have n1_ := Aside0.mk (blk_below (g := gb508) (o := .cells #[.int .i64 0, .slice none 0 0] 31 (0, 0)) (by exact kP BK508.out) hb); have n2_ := Aside0.mk (IsS91.below (by repeat (first | (with_reducible first | exact HI0.out | apply IsS91.alloc | apply IsS91.drewN | apply IsS91.drew | apply IsS91.set_1 | apply IsS91.set_2 | refine IsS91.far ?_ NB0_508.out _) | exact HI0.out)) hb); have n3_ := Aside0.mk (KeepBut.trans (by exact kK) (KeepBut.of_below hb g none) (.inl rfl)); have n4_ := Aside0.mk (below_step (by exact bB) hb); clear BK508; clear HI0; clear HK; clear HB; have HO524 := n0_; have BK508 := n1_; have HI0 := n2_; have HK := n3_; have HB := n4_; clear n0_ n1_ n2_ n3_ n4_; clear hb ho23; obtain ⟨Ao24, co24, eo24⟩ := Kd.R_slice HO524.out; subst eo24) | ((with_reducible refine gate_dst (N := 6) rfl ?_); refine box_event ?hg (N := 6) ?hd (cs := #[.int .i64 0, .slice none 0 0]) (t := 31) ?hr ?_; (case hd => rfl); (case hg => rfl); (case hr => first | (go_simp; done) | (go_simp; rfl)); intro gb525 hg w25 hbox hb; have n0_ := Aside0.mk (Kd.R_below (by exact rP HO524.out) hb); have n1_ := Aside0.mk (blk_below (g := gb508) (o := .cells #[.int .i64 0, .slice none 0 0] 31 (0, 0)) (by exact kP BK508.out) hb); have n2_ := Aside0.mk (IsS91.below (by repeat (first | (with_reducible first | exact HI0.out | apply IsS91.alloc | apply IsS91.drewN | apply IsS91.drew | apply IsS91.set_1 | apply IsS91.set_2 | refine IsS91.far ?_ NB0_508.out _) | exact HI0.out)) hb); have n3_ := Aside0.mk (KeepBut.trans (by exact kK) (KeepBut.of_below hb g none) (.inl rfl)); have n4_ := Aside0.mk (below_step (by exact bB) hb); have n5_ := Aside0.mk (hbox); have n6_ := Aside0.mk ((by rw [hg]; exact (keep_size (w := w) (g := g) (row := none) (by exact kK)) : w.heap.size ≤ gb525)); have n7_ := Aside0.mk ((Nat.le_trans HW0.out (by rw [hg]; exact (keep_size (w := w) (g := g) (row := none) (by exact kK)) : w.heap.size ≤ gb525) : w0.heap.size ≤ gb525)); have n8_ := Aside0.mk ((by rw [hg]; exact Nat.ne_of_lt (blk_lt (g := gb508) (o := .cells #[.int .i64 0, .slice none 0 0] 31 (0, 0)) (by exact kP BK508.out)) : gb508 ≠ gb525)); have n9_ := Aside0.mk ((by rw [hg]; exact Nat.ne_of_gt (blk_lt (g := gb508) (o := .cells #[.int .i64 0, .slice none 0 0] 31 (0, 0)) (by exact kP BK508.out)) : gb525 ≠ gb508)); have n10_ := Aside0.mk ((by rw [hg]; exact Nat.ne_of_lt (IsS91.lt (show IsS91 w0 _ g s0_0 x1001_12 x1002_12 from by exact sS)) : g ≠ gb525)); have n11_ := Aside0.mk ((by rw [hg]; exact Nat.ne_of_gt (IsS91.lt (show IsS91 w0 _ g s0_0 x1001_12 x1002_12 from by exact sS)) : gb525 ≠ g)); clear HO524; clear BK508; clear HI0; clear HK; clear HB; have HO524 := n0_; have BK508 := n1_; have HI0 := n2_; have HK := n3_; have HB := n4_; have BK525 := n5_; have GW525 := n6_; have GE525 := n7_; have NB508_525 := n8_; have NB525_508 := n9_; have NB0_525 := n10_; have NB525_0 := n11_; clear n0_ n1_ n2_ n3_ n4_ n5_ n6_ n7_ n8_ n9_ n10_ n11_; clear hb hbox hg; have hnb26 := NB525_508.out; have hnc26 := NB508_525.out; have hnb27 := NB525_0.out; have hnc27 := NB0_525.out; have hcz28_0 : w25.cell? ⟨gb525, 0, none⟩ = some (.int .i64 0) := (blk_cell BK525.out 0).trans rfl; have hcz28_1 : w25.cell? ⟨gb525, 1, none⟩ = some (.slice none 0 0) := (blk_cell BK525.out 1).trans rfl; have hfz28_0 := blk_frozen BK525.out 0; have hfz28_1 := blk_frozen BK525.out 1) | ((with_reducible refine gate_callee (f := 131) rfl ?_); refine goesL_ (some 31) rfl rfl Try.func131 (by kernel_rfl) rfl #[.pointer (some ⟨g, 0, none⟩), .int .i64 8] rfl (by (try simp only [List.map_toArray, List.map_cons, List.map_nil]); first | done | rfl | (simp only [List.length_drop, List.length_take]; rfl)) ?_; (with_reducible refine (spec_l1Cur_pick.calls g s0_0 x1001_12 x1002_12 8 t526 t527 t528 w0 _ ?side1 ?side2 A18.out).mono ?_); (case side1 => exact sS); (case side2 => exact bB); rintro e w29 ⟨rfl, hi, hb, hk⟩; refine ⟨_, rfl, ?_⟩; have n0_ := Aside0.mk (KeepBut.blk hk (g' := gb508) (o := .cells #[.int .i64 0, .slice none 0 0] 31 (0, 0)) (by refine kP ?_; refine blk_far ?_ NB508_525.out _; refine kP ?_; refine blk_far ?_ NB508_525.out _; exact kP BK508.out) NB508_0.out (by simp)); have n1_ := Aside0.mk (Kd.R_mono (Kd.R_keep (IsS91.apart (show IsS91 w0 _ g s0_0 x1001_12 x1002_12 from by exact sS) (by exact rP ((Kd.R_mono (Kd.R_far (p := ⟨gb525, 1, none⟩) (Kd.R_far (p := ⟨gb525, 0, none⟩) (Kd.R_types HO524.out BK525.out (by decide)) (fun _ hk => hk.2) (.int .i64 t521)) (fun _ hk => hk.2) (.slice Ao24 y522.length co24)) (fun _ h_ => h_.1)))) (by decide)) hk (fun _ h => h.2)) (fun _ h => h.1)); have n2_ := Aside0.mk (KeepBut.blk hk (g' := gb525) (o := .cells #[.int .i64 t521, .slice Ao24 y522.length co24] 31 (0, 0)) (by refine kP ?_; refine blk_put (cs := #[.int .i64 t521, .slice none 0 0]) ?_ 1 _ rfl; refine kP ?_; refine blk_put (cs := #[.int .i64 0, .slice none 0 0]) ?_ 0 _ rfl; exact kP BK525.out) NB525_0.out (by simp)); have n3_ := Aside0.mk (KeepBut.trans (by exact kK) hk (.inl rfl)); have n4_ := Aside0.mk (hb); have n5_ := Aside0.mk (hi); clear BK508; clear HO524; clear BK525; clear HK; clear HB; clear HI0; have BK508 := n0_; have HO524 := n1_; have BK525 := n2_; have HK := n3_; have HB := n4_; have HI0 := n5_; clear n0_ n1_ n2_ n3_ n4_ n5_; (try clear hb); (try clear hb2); (try clear hk); (try clear hi)) | ((with_reducible refine gate_callee (f := 132) rfl ?_); refine goesL_ (some 87) rfl rfl Try.func132 (by kernel_rfl) rfl #[.int .i64 t521] rfl (by (try simp only [List.map_toArray, List.map_cons, List.map_nil]); first | done | rfl | (simp only [List.length_drop, List.length_take]; rfl)) ?_; (with_reducible refine (spec_l2Path.calls kj12 t521 t529 t530 _ A20.out).mono ?_); rintro e w30 ⟨v531, rfl, ho0, hb⟩; refine ⟨_, rfl, ?_⟩; have n0_ := Aside0.mk (Kd.R_elder' (by exact rP HO524.out) (Kd.R_base ho0) hb); have n1_ := Aside0.mk (Kd.R_lower (Kd.R_new' ho0 (Kd.R_lt (by exact rP HO524.out))) (keep_size (w := w) (g := g) (row := none) (by exact kK))); have n2_ := Aside0.mk (blk_below (g := gb508) (o := .cells #[.int .i64 0, .slice none 0 0] 31 (0, 0)) (by exact kP BK508.out) hb); have n3_ := Aside0.mk (IsS91.below (by repeat (first | (with_reducible first | exact HI0.out | apply IsS91.alloc | apply IsS91.drewN | apply IsS91.drew | apply IsS91.set_1 | apply IsS91.set_2 | refine IsS91.far ?_ NB0_508.out _ | refine IsS91.far ?_ NB0_525.out _) | exact HI0.out)) hb); have n4_ := Aside0.mk (blk_below (g := gb525) (o := .cells #[.int .i64 t521, .slice Ao24 y522.length co24] 31 (0, 0)) (by exact kP BK525.out) hb); have n5_ := Aside0.mk (KeepBut.trans (by exact kK) (KeepBut.of_below hb g none) (.inl rfl)); have n6_ := Aside0.mk (below_step (by exact bB) hb); clear HO524; clear BK508; clear HI0; clear BK525; clear HK; clear HB; have HO524 := n0_; have HO532 := n1_; have BK508 := n2_; have HI0 := n3_; have BK525 := n4_; have HK := n5_; have HB := n6_; clear n0_ n1_ n2_ n3_ n4_ n5_ n6_; (try clear hb); (try clear hb2); (try clear hk); (try clear hi); (try clear ho0); have hcz31_0 : w30.cell? ⟨gb525, 0, none⟩ = some (.int .i64 t521) := (blk_cell BK525.out 0).trans rfl; have hcz31_1 : w30.cell? ⟨gb525, 1, none⟩ = some (.slice Ao24 y522.length co24) := (blk_cell BK525.out 1).trans rfl; have hfz31_0 := blk_frozen BK525.out 0; have hfz31_1 := blk_frozen BK525.out 1; obtain ⟨Ao32, co32, eo32⟩ := Kd.R_slice HO532.out; subst eo32) | ((with_reducible refine gate_store (t := 31) (p := 6) rfl ?_); refine store_event (t := 31) (p := 6) (v := ?vo_w33) (w1 := ((w30.setCell ⟨gb525, 0, none⟩ (.int .i64 t529)).setCell ⟨gb525, 1, none⟩ (.slice Ao32 t530.length co32))) ?hg ?ho ?hn ?hr ?_; (case ho => rfl); (case hg => rfl); (case hn => rfl); (case hr => first | (go_simp; done) | (go_simp; rfl)); intro w33 hw; have n0_ : Aside0 (Kd.R k119 119 w33 w.heap.size (fun k_ => some k_ ≠ (.slice Ao32 t530.length co32 : Value).ownBlock) (.slice Ao24 y522.length co24) y522) := ⟨(by rw [hw]; exact (by refine rP ?_; exact Kd.R_mono (Kd.R_far (p := ⟨gb525, 1, none⟩) (Kd.R_far (p := ⟨gb525, 0, none⟩) (Kd.R_types HO524.out BK525.out (by decide)) (fun _ hk => hk.2) (.int .i64 t529)) (fun _ hk => hk.2) (.slice Ao32 t530.length co32)) (fun _ hk => hk.1.2)))⟩; have n1_ : Aside0 (Kd.R k119 119 w33 w.heap.size (fun k_ => some k_ ≠ (.slice Ao24 y522.length co24 : Value).ownBlock) (.slice Ao32 t530.length co32) t530) := ⟨(by rw [hw]; exact (by refine rP ?_; exact Kd.R_mono (Kd.R_far (p := ⟨gb525, 1, none⟩) (Kd.R_far (p := ⟨gb525, 0, none⟩) (Kd.R_types HO532.out BK525.out (by decide)) (fun _ hk => hk.2) (.int .i64 t529)) (fun _ hk => hk.2) (.slice Ao32 t530.length co32)) (fun _ hk => hk.1.2)))⟩; have n2_ : Aside0 (w33.heap[gb508]? = some (.cells #[.int .i64 0, .slice none 0 0] 31 (0, 0))) := ⟨(by rw [hw]; exact (by refine kP ?_; refine blk_far ?_ NB508_525.out _; refine kP ?_; refine blk_far ?_ NB508_525.out _; exact kP BK508.out))⟩; have n3_ : Aside0 (w33.heap[gb525]? = some (.cells #[.int .i64 t529, .slice Ao32 t530.length co32] 31 (0, 0))) := ⟨(by rw [hw]; exact (by refine kP ?_; refine blk_put (cs := #[.int .i64 t529, .slice Ao24 y522.length co24]) ?_ 1 _ rfl; refine kP ?_; refine blk_put (cs := #[.int .i64 t521, .slice Ao24 y522.length co24]) ?_ 0 _ rfl; exact kP BK525.out))⟩; have n4_ : Aside0 (IsS91 w0 w33 g s0_0 t527 t528) := ⟨(by rw [hw]; exact (by exact sS))⟩; have n5_ : Aside0 (KeepBut w w33 g none) := ⟨(by rw [hw]; exact (by exact kK))⟩; have n6_ : Aside0 (Below w0.heap.size w0 w33) := ⟨(by rw [hw]; exact (by exact bB))⟩; clear hw; clear HO524; clear HO532; clear BK508; clear BK525; clear HI0; clear HK; clear HB; have HO524 := n0_; have HO532 := n1_; have BK508 := n2_; have BK525 := n3_; have HI0 := n4_; have HK := n5_; have HB := n6_; clear n0_ n1_ n2_ n3_ n4_ n5_ n6_; have hcz34_0 : w33.cell? ⟨gb525, 0, none⟩ = some (.int .i64 t529) := (blk_cell BK525.out 0).trans rfl; have hcz34_1 : w33.cell? ⟨gb525, 1, none⟩ = some (.slice Ao32 t530.length co32) := (blk_cell BK525.out 1).trans rfl; have hfz34_0 := blk_frozen BK525.out 0; have hfz34_1 := blk_frozen BK525.out 1) | ((with_reducible refine gate_callee (f := 138) rfl ?_); refine goesL_ (some 100) rfl rfl Try.func138 (by kernel_rfl) rfl #[.pointer (some ⟨g, 0, none⟩), .agg #[.int .i64 t529, .slice Ao32 t530.length co32]] rfl (by (try simp only [List.map_toArray, List.map_cons, List.map_nil]); first | done | rfl | (simp only [List.length_drop, List.length_take]; rfl)) ?_; (with_reducible refine (spec_l1Cur_marred.calls g s0_0 t527 t528 t529 (fun k_ => some k_ = (.slice Ao32 t530.length co32 : Value).ownBlock) (.slice Ao32 t530.length co32) t530 t533 t534 t537 t538 w0 _ ?side1 ?side2 ?side3 A21.out).mono ?_); (case side1 => exact sS); (case side2 => exact bB); (case side3 => exact Kd.R_lower (Kd.R_tight rfl HO532.out) HL.out); rintro e w35 ⟨v535, rfl, ho0, hi, hb, hkp⟩; refine ⟨_, rfl, ?_⟩; have n0_ := Aside0.mk (blk_kept (by exact kP BK508.out) hkp (fun hs_ => Or.elim hs_ (fun hs_ => (fun e_ => (Kd.R_ne HO532.out BK508.out (by decide)) e_) hs_) (fun e_ => NB508_0.out e_))); have n1_ := Aside0.mk (hi); have n2_ := Aside0.mk (Kd.R_mono (ok' := fun k_ => some k_ ≠ (v535 : Value).ownBlock) (Kd.R_keptB ((IsS91.apart HI0.out HO524.out (by decide))) hkp (fun k_ hk_ hs_ => Or.elim hs_ (fun hs_ => (hk_.1) hs_) (fun e_ => (hk_.2) e_))) (fun k_ hk_ => fun e_ => Or.elim (ho0.1 k_ e_.symm) (fun hs_ => hk_.2.1 (.inl hs_)) (fun hn_ => Nat.not_le.2 hk_.2.2 hn_))); have n3_ := Aside0.mk (blk_kept BK525.out hkp (fun hs_ => Or.elim hs_ (fun hs_ => (fun e_ => (Kd.R_ne HO532.out BK525.out (by decide)) e_) hs_) (fun e_ => NB525_0.out e_))); have n4_ := Aside0.mk (Kd.R_mono (ok' := fun k_ => some k_ ≠ (.slice Ao24 y522.length co24 : Value).ownBlock) (Kd.R_raise (d := k119) (b := w0.heap.size) (b' := w.heap.size) (fun _ _ _ _ h_ => h_) ho0 (fun k_ e_ => Or.elim (ho0.1 k_ e_) (fun hs_ => (fun e_ => Kd.R_base HO532.out k_ e_.symm) hs_) (fun hn_ => Nat.le_trans (keep_size (w := w) (g := g) (row := none) (by exact kK)) hn_))) (fun k_ hk_ => Or.elim hk_ (fun hs_ => fun e_ => ((((IsS91.apart HI0.out HO524.out (by decide))).1 k_ e_.symm).1) hs_) (fun hn_ => (Kd.fresh' (Kd.R_lt (by exact rP HO524.out)) k_ hn_)))); have n5_ := Aside0.mk (Kept.keepG (by exact kK) hkp (fun k_ hs_ => Or.elim hs_ (fun hs_ => (fun e_ => .inr (Kd.R_base HO532.out k_ e_.symm)) hs_) (fun e_ => .inl e_))); have n6_ := Aside0.mk (hb); clear BK508; clear HI0; clear HO524; clear BK525; clear HK; clear HB; clear HO532; have BK508 := n0_; have HI0 := n1_; have HO524 := n2_; have BK525 := n3_; have HO536 := n4_; have HK := n5_; have HB := n6_; clear n0_ n1_ n2_ n3_ n4_ n5_ n6_; (try clear hb); (try clear hkp); (try clear ho0); have hnb36 := NB508_0.out; have hnc36 := NB0_508.out; have hcz37_0 : w35.cell? ⟨gb508, 0, none⟩ = some (.int .i64 0) := (blk_cell BK508.out 0).trans rfl; have hcz37_1 : w35.cell? ⟨gb508, 1, none⟩ = some (.slice none 0 0) := (blk_cell BK508.out 1).trans rfl; have hfz37_0 := blk_frozen BK508.out 0; have hfz37_1 := blk_frozen BK508.out 1; obtain ⟨Ao38, co38, eo38⟩ := Kd.R_slice HO536.out; subst eo38))
      refine bodyPost_ret (results_cell_row rfl _ _ gb508 31 #[.int .i64 t533, .slice Ao38 t534.length co38] (0, 0) _ rfl (by refine kP ?_; refine blk_put (cs := #[.int .i64 t533, .slice none 0 0]) ?_ 1 _ rfl; refine kP ?_; refine blk_put (cs := #[.int .i64 0, .slice none 0 0]) ?_ 0 _ rfl; exact kP BK508.out) Try.underlying31 rfl (by kernel_rfl)) rfl ?_
      exact ⟨_, by first | rfl | (simp [errW_none, errW_some] <;> rfl) | (simp [*, errW_none, errW_some] <;> rfl), by refine rP ?_; exact Kd.R_mono (Kd.R_far (p := ⟨gb508, 1, none⟩) (Kd.R_far (p := ⟨gb508, 0, none⟩) (Kd.R_types HO536.out BK508.out (by decide)) (fun _ hk => hk.2) (.int .i64 t533)) (fun _ hk => hk.2) (.slice Ao38 t534.length co38)) (fun _ hk => trivial), by exact sS, by exact bB, by exact kK⟩
     ·rw [if_neg c19] at H
      have c19b0 : (t526 == 0) = false := beq_eq_false_iff_ne.mpr c19
      have c19b1 : (t526 != 0) = true := bne_iff_ne.mpr c19
      by_cases c39 : t526 = 1
      ·rw [if_pos c39] at H
       have c39b0 : (t526 == 1) = true := beq_iff_eq.mpr c39
       have c39b1 : (t526 != 1) = false := bne_eq_false_iff_eq.mpr c39
       clear c39
       by_cases c40 : t521 > 2
       ·rw [if_pos c40] at H
        have c40b0 : decide (2 < t521) = true := decide_eq_true c40
        clear c40
        replace H := Option.bind_eq_some_iff.mp H
        obtain ⟨⟨t539, t540⟩, A410, H⟩ := H
        replace H : ((spec_l1Cur_marred.f s0_0 t527 t528 t539 t540).bind fun bt543 => (some (bt543.1, bt543.2.1, bt543.2.2.1, bt543.2.2.2))) = some (r1, r2, r3, r4) := H
        have A41 := Aside0.mk A410
        clear A410
        replace H := Option.bind_eq_some_iff.mp H
        obtain ⟨⟨t543, t544, t547, t548⟩, A420, H⟩ := H
        replace H : (some (t543, t544, t547, t548)) = some (r1, r2, r3, r4) := H
        have A42 := Aside0.mk A420
        clear A420
        simp only [Option.some.injEq, Prod.mk.injEq] at H
        obtain ⟨rfl, rfl, rfl, rfl⟩ := H
        go_wp2_with (first | ((with_reducible refine gate_callee (f := 126) rfl ?_); refine goesL_ (some 26) rfl rfl Try.func126 (by kernel_rfl) rfl #[.int .i64 x5_12, .int .i64 a1] rfl (by (try simp only [List.map_toArray, List.map_cons, List.map_nil]); first | done | rfl | (simp only [List.length_drop, List.length_take]; rfl)) ?_; (with_reducible refine (spec_l1Least.calls x5_12 a1 t521 _ A17.out).mono ?_); rintro e w' ⟨rfl, ⟨nd, rfl⟩⟩; refine ⟨_, rfl, ?_⟩; (try (rw [drewN_self wc]; generalize hq_ : World.drewN wc _ = wc; have n0_ : Aside0 (wc.heap[gb508]? = some (.cells #[.int .i64 0, .slice none 0 0] 31 (0, 0))) := ⟨by rw [← hq_]; exact (by exact kP BK508.out)⟩; have n1_ : Aside0 (IsS91 w0 wc g s0_0 x1001_12 x1002_12) := ⟨by rw [← hq_]; exact (by exact sS)⟩; have n2_ : Aside0 (KeepBut w wc g none) := ⟨by rw [← hq_]; exact (by exact kK)⟩; have n3_ : Aside0 (Below w0.heap.size w0 wc) := ⟨by rw [← hq_]; exact (by exact bB)⟩; clear BK508 HI0 HK HB hq_; have BK508 := n0_; have HI0 := n1_; have HK := n2_; have HB := n3_; clear n0_ n1_ n2_ n3_))) | ((with_reducible refine gate_dst (N := 28) rfl ?_); refine Kd.R_lit k119 _ 119 ?hg (N := 28) ?hd (xs := ([] : List (S119))) (inner := []) (ok := fun _ => True) (okp := fun _ => True) ?hr ?hp (fun _ hk => hk) trivial (Below.refl _ _) (Nat.le_refl _) (by simp) ?_; (case hd => rfl); (case hg => rfl); (case hr => first | (go_simp; done) | (go_simp; rfl)); (case hp => exact (Reps.none _ _)); intro v523 w43 ho44 hb hg_ hnew_; clear hg_ hnew_; (first | rw [← Ny522.out] at ho44 | (simp only [Int.reduceToNat] at ho44; rw [← Ny522.out] at ho44)); have n0_ := Aside0.mk (Kd.R_lower ho44 (keep_size (w := w) (g := g) (row := none) (by exact kK))); have n1_ := Aside0.mk (blk_below (g := gb508) (o := .cells #[.int .i64 0, .slice none 0 0] 31 (0, 0)) (by exact kP BK508.out) hb); have n2_ := Aside0.mk (IsS91.below (by repeat (first | (with_reducible first | exact HI0.out | apply IsS91.alloc | apply IsS91.drewN | apply IsS91.drew | apply IsS91.set_1 | apply IsS91.set_2 | refine IsS91.far ?_ NB0_508.out _) | exact HI0.out)) hb); have n3_ := Aside0.mk (KeepBut.trans (by exact kK) (KeepBut.of_below hb g none) (.inl rfl)); have n4_ := Aside0.mk (below_step (by exact bB) hb); clear BK508; clear HI0; clear HK; clear HB; have HO524 := n0_; have BK508 := n1_; have HI0 := n2_; have HK := n3_; have HB := n4_; clear n0_ n1_ n2_ n3_ n4_; clear hb ho44; obtain ⟨Ao45, co45, eo45⟩ := Kd.R_slice HO524.out; subst eo45) | ((with_reducible refine gate_dst (N := 6) rfl ?_); refine box_event ?hg (N := 6) ?hd (cs := #[.int .i64 0, .slice none 0 0]) (t := 31) ?hr ?_; (case hd => rfl); (case hg => rfl); (case hr => first | (go_simp; done) | (go_simp; rfl)); intro gb525 hg w46 hbox hb; have n0_ := Aside0.mk (Kd.R_below (by exact rP HO524.out) hb); have n1_ := Aside0.mk (blk_below (g := gb508) (o := .cells #[.int .i64 0, .slice none 0 0] 31 (0, 0)) (by exact kP BK508.out) hb); have n2_ := Aside0.mk (IsS91.below (by repeat (first | (with_reducible first | exact HI0.out | apply IsS91.alloc | apply IsS91.drewN | apply IsS91.drew | apply IsS91.set_1 | apply IsS91.set_2 | refine IsS91.far ?_ NB0_508.out _) | exact HI0.out)) hb); have n3_ := Aside0.mk (KeepBut.trans (by exact kK) (KeepBut.of_below hb g none) (.inl rfl)); have n4_ := Aside0.mk (below_step (by exact bB) hb); have n5_ := Aside0.mk (hbox); have n6_ := Aside0.mk ((by rw [hg]; exact (keep_size (w := w) (g := g) (row := none) (by exact kK)) : w.heap.size ≤ gb525)); have n7_ := Aside0.mk ((Nat.le_trans HW0.out (by rw [hg]; exact (keep_size (w := w) (g := g) (row := none) (by exact kK)) : w.heap.size ≤ gb525) : w0.heap.size ≤ gb525)); have n8_ := Aside0.mk ((by rw [hg]; exact Nat.ne_of_lt (blk_lt (g := gb508) (o := .cells #[.int .i64 0, .slice none 0 0] 31 (0, 0)) (by exact kP BK508.out)) : gb508 ≠ gb525)); have n9_ := Aside0.mk ((by rw [hg]; exact Nat.ne_of_gt (blk_lt (g := gb508) (o := .cells #[.int .i64 0, .slice none 0 0] 31 (0, 0)) (by exact kP BK508.out)) : gb525 ≠ gb508)); have n10_ := Aside0.mk ((by rw [hg]; exact Nat.ne_of_lt (IsS91.lt (show IsS91 w0 _ g s0_0 x1001_12 x1002_12 from by exact sS)) : g ≠ gb525)); have n11_ := Aside0.mk ((by rw [hg]; exact Nat.ne_of_gt (IsS91.lt (show IsS91 w0 _ g s0_0 x1001_12 x1002_12 from by exact sS)) : gb525 ≠ g)); clear HO524; clear BK508; clear HI0; clear HK; clear HB; have HO524 := n0_; have BK508 := n1_; have HI0 := n2_; have HK := n3_; have HB := n4_; have BK525 := n5_; have GW525 := n6_; have GE525 := n7_; have NB508_525 := n8_; have NB525_508 := n9_; have NB0_525 := n10_; have NB525_0 := n11_; clear n0_ n1_ n2_ n3_ n4_ n5_ n6_ n7_ n8_ n9_ n10_ n11_; clear hb hbox hg; have hnb47 := NB525_508.out; have hnc47 := NB508_525.out; have hnb48 := NB525_0.out; have hnc48 := NB0_525.out; have hcz49_0 : w46.cell? ⟨gb525, 0, none⟩ = some (.int .i64 0) := (blk_cell BK525.out 0).trans rfl; have hcz49_1 : w46.cell? ⟨gb525, 1, none⟩ = some (.slice none 0 0) := (blk_cell BK525.out 1).trans rfl; have hfz49_0 := blk_frozen BK525.out 0; have hfz49_1 := blk_frozen BK525.out 1) | ((with_reducible refine gate_callee (f := 131) rfl ?_); refine goesL_ (some 31) rfl rfl Try.func131 (by kernel_rfl) rfl #[.pointer (some ⟨g, 0, none⟩), .int .i64 8] rfl (by (try simp only [List.map_toArray, List.map_cons, List.map_nil]); first | done | rfl | (simp only [List.length_drop, List.length_take]; rfl)) ?_; (with_reducible refine (spec_l1Cur_pick.calls g s0_0 x1001_12 x1002_12 8 t526 t527 t528 w0 _ ?side1 ?side2 A18.out).mono ?_); (case side1 => exact sS); (case side2 => exact bB); rintro e w50 ⟨rfl, hi, hb, hk⟩; refine ⟨_, rfl, ?_⟩; have n0_ := Aside0.mk (KeepBut.blk hk (g' := gb508) (o := .cells #[.int .i64 0, .slice none 0 0] 31 (0, 0)) (by refine kP ?_; refine blk_far ?_ NB508_525.out _; refine kP ?_; refine blk_far ?_ NB508_525.out _; exact kP BK508.out) NB508_0.out (by simp)); have n1_ := Aside0.mk (Kd.R_mono (Kd.R_keep (IsS91.apart (show IsS91 w0 _ g s0_0 x1001_12 x1002_12 from by exact sS) (by exact rP ((Kd.R_mono (Kd.R_far (p := ⟨gb525, 1, none⟩) (Kd.R_far (p := ⟨gb525, 0, none⟩) (Kd.R_types HO524.out BK525.out (by decide)) (fun _ hk => hk.2) (.int .i64 t521)) (fun _ hk => hk.2) (.slice Ao45 y522.length co45)) (fun _ h_ => h_.1)))) (by decide)) hk (fun _ h => h.2)) (fun _ h => h.1)); have n2_ := Aside0.mk (KeepBut.blk hk (g' := gb525) (o := .cells #[.int .i64 t521, .slice Ao45 y522.length co45] 31 (0, 0)) (by refine kP ?_; refine blk_put (cs := #[.int .i64 t521, .slice none 0 0]) ?_ 1 _ rfl; refine kP ?_; refine blk_put (cs := #[.int .i64 0, .slice none 0 0]) ?_ 0 _ rfl; exact kP BK525.out) NB525_0.out (by simp)); have n3_ := Aside0.mk (KeepBut.trans (by exact kK) hk (.inl rfl)); have n4_ := Aside0.mk (hb); have n5_ := Aside0.mk (hi); clear BK508; clear HO524; clear BK525; clear HK; clear HB; clear HI0; have BK508 := n0_; have HO524 := n1_; have BK525 := n2_; have HK := n3_; have HB := n4_; have HI0 := n5_; clear n0_ n1_ n2_ n3_ n4_ n5_; (try clear hb); (try clear hb2); (try clear hk); (try clear hi)) | ((with_reducible refine gate_callee (f := 133) rfl ?_); refine goesL_ (some 93) rfl rfl Try.func133 (by kernel_rfl) rfl #[.int .i64 t521] rfl (by (try simp only [List.map_toArray, List.map_cons, List.map_nil]); first | done | rfl | (simp only [List.length_drop, List.length_take]; rfl)) ?_; (with_reducible refine (spec_l2Cycle.calls kj12 t521 t539 t540 _ A41.out).mono ?_); rintro e w51 ⟨v541, rfl, ho0, hb⟩; refine ⟨_, rfl, ?_⟩; have n0_ := Aside0.mk (Kd.R_elder' (by exact rP HO524.out) (Kd.R_base ho0) hb); have n1_ := Aside0.mk (Kd.R_lower (Kd.R_new' ho0 (Kd.R_lt (by exact rP HO524.out))) (keep_size (w := w) (g := g) (row := none) (by exact kK))); have n2_ := Aside0.mk (blk_below (g := gb508) (o := .cells #[.int .i64 0, .slice none 0 0] 31 (0, 0)) (by exact kP BK508.out) hb); have n3_ := Aside0.mk (IsS91.below (by repeat (first | (with_reducible first | exact HI0.out | apply IsS91.alloc | apply IsS91.drewN | apply IsS91.drew | apply IsS91.set_1 | apply IsS91.set_2 | refine IsS91.far ?_ NB0_508.out _ | refine IsS91.far ?_ NB0_525.out _) | exact HI0.out)) hb); have n4_ := Aside0.mk (blk_below (g := gb525) (o := .cells #[.int .i64 t521, .slice Ao45 y522.length co45] 31 (0, 0)) (by exact kP BK525.out) hb); have n5_ := Aside0.mk (KeepBut.trans (by exact kK) (KeepBut.of_below hb g none) (.inl rfl)); have n6_ := Aside0.mk (below_step (by exact bB) hb); clear HO524; clear BK508; clear HI0; clear BK525; clear HK; clear HB; have HO524 := n0_; have HO542 := n1_; have BK508 := n2_; have HI0 := n3_; have BK525 := n4_; have HK := n5_; have HB := n6_; clear n0_ n1_ n2_ n3_ n4_ n5_ n6_; (try clear hb); (try clear hb2); (try clear hk); (try clear hi); (try clear ho0); have hcz52_0 : w51.cell? ⟨gb525, 0, none⟩ = some (.int .i64 t521) := (blk_cell BK525.out 0).trans rfl; have hcz52_1 : w51.cell? ⟨gb525, 1, none⟩ = some (.slice Ao45 y522.length co45) := (blk_cell BK525.out 1).trans rfl; have hfz52_0 := blk_frozen BK525.out 0; have hfz52_1 := blk_frozen BK525.out 1; obtain ⟨Ao53, co53, eo53⟩ := Kd.R_slice HO542.out; subst eo53) | ((with_reducible refine gate_store (t := 31) (p := 6) rfl ?_); refine store_event (t := 31) (p := 6) (v := ?vo_w54) (w1 := ((w51.setCell ⟨gb525, 0, none⟩ (.int .i64 t539)).setCell ⟨gb525, 1, none⟩ (.slice Ao53 t540.length co53))) ?hg ?ho ?hn ?hr ?_; (case ho => rfl); (case hg => rfl); (case hn => rfl); (case hr => first | (go_simp; done) | (go_simp; rfl)); intro w54 hw; have n0_ : Aside0 (Kd.R k119 119 w54 w.heap.size (fun k_ => some k_ ≠ (.slice Ao53 t540.length co53 : Value).ownBlock) (.slice Ao45 y522.length co45) y522) := ⟨(by rw [hw]; exact (by refine rP ?_; exact Kd.R_mono (Kd.R_far (p := ⟨gb525, 1, none⟩) (Kd.R_far (p := ⟨gb525, 0, none⟩) (Kd.R_types HO524.out BK525.out (by decide)) (fun _ hk => hk.2) (.int .i64 t539)) (fun _ hk => hk.2) (.slice Ao53 t540.length co53)) (fun _ hk => hk.1.2)))⟩; have n1_ : Aside0 (Kd.R k119 119 w54 w.heap.size (fun k_ => some k_ ≠ (.slice Ao45 y522.length co45 : Value).ownBlock) (.slice Ao53 t540.length co53) t540) := ⟨(by rw [hw]; exact (by refine rP ?_; exact Kd.R_mono (Kd.R_far (p := ⟨gb525, 1, none⟩) (Kd.R_far (p := ⟨gb525, 0, none⟩) (Kd.R_types HO542.out BK525.out (by decide)) (fun _ hk => hk.2) (.int .i64 t539)) (fun _ hk => hk.2) (.slice Ao53 t540.length co53)) (fun _ hk => hk.1.2)))⟩; have n2_ : Aside0 (w54.heap[gb508]? = some (.cells #[.int .i64 0, .slice none 0 0] 31 (0, 0))) := ⟨(by rw [hw]; exact (by refine kP ?_; refine blk_far ?_ NB508_525.out _; refine kP ?_; refine blk_far ?_ NB508_525.out _; exact kP BK508.out))⟩; have n3_ : Aside0 (w54.heap[gb525]? = some (.cells #[.int .i64 t539, .slice Ao53 t540.length co53] 31 (0, 0))) := ⟨(by rw [hw]; exact (by refine kP ?_; refine blk_put (cs := #[.int .i64 t539, .slice Ao45 y522.length co45]) ?_ 1 _ rfl; refine kP ?_; refine blk_put (cs := #[.int .i64 t521, .slice Ao45 y522.length co45]) ?_ 0 _ rfl; exact kP BK525.out))⟩; have n4_ : Aside0 (IsS91 w0 w54 g s0_0 t527 t528) := ⟨(by rw [hw]; exact (by exact sS))⟩; have n5_ : Aside0 (KeepBut w w54 g none) := ⟨(by rw [hw]; exact (by exact kK))⟩; have n6_ : Aside0 (Below w0.heap.size w0 w54) := ⟨(by rw [hw]; exact (by exact bB))⟩; clear hw; clear HO524; clear HO542; clear BK508; clear BK525; clear HI0; clear HK; clear HB; have HO524 := n0_; have HO542 := n1_; have BK508 := n2_; have BK525 := n3_; have HI0 := n4_; have HK := n5_; have HB := n6_; clear n0_ n1_ n2_ n3_ n4_ n5_ n6_; have hcz55_0 : w54.cell? ⟨gb525, 0, none⟩ = some (.int .i64 t539) := (blk_cell BK525.out 0).trans rfl; have hcz55_1 : w54.cell? ⟨gb525, 1, none⟩ = some (.slice Ao53 t540.length co53) := (blk_cell BK525.out 1).trans rfl; have hfz55_0 := blk_frozen BK525.out 0; have hfz55_1 := blk_frozen BK525.out 1) | ((with_reducible refine gate_callee (f := 138) rfl ?_); refine goesL_ (some 100) rfl rfl Try.func138 (by kernel_rfl) rfl #[.pointer (some ⟨g, 0, none⟩), .agg #[.int .i64 t539, .slice Ao53 t540.length co53]] rfl (by (try simp only [List.map_toArray, List.map_cons, List.map_nil]); first | done | rfl | (simp only [List.length_drop, List.length_take]; rfl)) ?_; (with_reducible refine (spec_l1Cur_marred.calls g s0_0 t527 t528 t539 (fun k_ => some k_ = (.slice Ao53 t540.length co53 : Value).ownBlock) (.slice Ao53 t540.length co53) t540 t543 t544 t547 t548 w0 _ ?side1 ?side2 ?side3 A42.out).mono ?_); (case side1 => exact sS); (case side2 => exact bB); (case side3 => exact Kd.R_lower (Kd.R_tight rfl HO542.out) HL.out); rintro e w56 ⟨v545, rfl, ho0, hi, hb, hkp⟩; refine ⟨_, rfl, ?_⟩; have n0_ := Aside0.mk (blk_kept (by exact kP BK508.out) hkp (fun hs_ => Or.elim hs_ (fun hs_ => (fun e_ => (Kd.R_ne HO542.out BK508.out (by decide)) e_) hs_) (fun e_ => NB508_0.out e_))); have n1_ := Aside0.mk (hi); have n2_ := Aside0.mk (Kd.R_mono (ok' := fun k_ => some k_ ≠ (v545 : Value).ownBlock) (Kd.R_keptB ((IsS91.apart HI0.out HO524.out (by decide))) hkp (fun k_ hk_ hs_ => Or.elim hs_ (fun hs_ => (hk_.1) hs_) (fun e_ => (hk_.2) e_))) (fun k_ hk_ => fun e_ => Or.elim (ho0.1 k_ e_.symm) (fun hs_ => hk_.2.1 (.inl hs_)) (fun hn_ => Nat.not_le.2 hk_.2.2 hn_))); have n3_ := Aside0.mk (blk_kept BK525.out hkp (fun hs_ => Or.elim hs_ (fun hs_ => (fun e_ => (Kd.R_ne HO542.out BK525.out (by decide)) e_) hs_) (fun e_ => NB525_0.out e_))); have n4_ := Aside0.mk (Kd.R_mono (ok' := fun k_ => some k_ ≠ (.slice Ao45 y522.length co45 : Value).ownBlock) (Kd.R_raise (d := k119) (b := w0.heap.size) (b' := w.heap.size) (fun _ _ _ _ h_ => h_) ho0 (fun k_ e_ => Or.elim (ho0.1 k_ e_) (fun hs_ => (fun e_ => Kd.R_base HO542.out k_ e_.symm) hs_) (fun hn_ => Nat.le_trans (keep_size (w := w) (g := g) (row := none) (by exact kK)) hn_))) (fun k_ hk_ => Or.elim hk_ (fun hs_ => fun e_ => ((((IsS91.apart HI0.out HO524.out (by decide))).1 k_ e_.symm).1) hs_) (fun hn_ => (Kd.fresh' (Kd.R_lt (by exact rP HO524.out)) k_ hn_)))); have n5_ := Aside0.mk (Kept.keepG (by exact kK) hkp (fun k_ hs_ => Or.elim hs_ (fun hs_ => (fun e_ => .inr (Kd.R_base HO542.out k_ e_.symm)) hs_) (fun e_ => .inl e_))); have n6_ := Aside0.mk (hb); clear BK508; clear HI0; clear HO524; clear BK525; clear HK; clear HB; clear HO542; have BK508 := n0_; have HI0 := n1_; have HO524 := n2_; have BK525 := n3_; have HO546 := n4_; have HK := n5_; have HB := n6_; clear n0_ n1_ n2_ n3_ n4_ n5_ n6_; (try clear hb); (try clear hkp); (try clear ho0); have hnb57 := NB508_0.out; have hnc57 := NB0_508.out; have hcz58_0 : w56.cell? ⟨gb508, 0, none⟩ = some (.int .i64 0) := (blk_cell BK508.out 0).trans rfl; have hcz58_1 : w56.cell? ⟨gb508, 1, none⟩ = some (.slice none 0 0) := (blk_cell BK508.out 1).trans rfl; have hfz58_0 := blk_frozen BK508.out 0; have hfz58_1 := blk_frozen BK508.out 1; obtain ⟨Ao59, co59, eo59⟩ := Kd.R_slice HO546.out; subst eo59))
        refine bodyPost_ret (results_cell_row rfl _ _ gb508 31 #[.int .i64 t543, .slice Ao59 t544.length co59] (0, 0) _ rfl (by refine kP ?_; refine blk_put (cs := #[.int .i64 t543, .slice none 0 0]) ?_ 1 _ rfl; refine kP ?_; refine blk_put (cs := #[.int .i64 0, .slice none 0 0]) ?_ 0 _ rfl; exact kP BK508.out) Try.underlying31 rfl (by kernel_rfl)) rfl ?_
        exact ⟨_, by first | rfl | (simp [errW_none, errW_some] <;> rfl) | (simp [*, errW_none, errW_some] <;> rfl), by refine rP ?_; exact Kd.R_mono (Kd.R_far (p := ⟨gb508, 1, none⟩) (Kd.R_far (p := ⟨gb508, 0, none⟩) (Kd.R_types HO546.out BK508.out (by decide)) (fun _ hk => hk.2) (.int .i64 t543)) (fun _ hk => hk.2) (.slice Ao59 t544.length co59)) (fun _ hk => trivial), by exact sS, by exact bB, by exact kK⟩
       ·rw [if_neg c40] at H
        have c40b0 : decide (2 < t521) = false := decide_eq_false c40
        clear c40
        replace H := Option.bind_eq_some_iff.mp H
        obtain ⟨⟨t549, t550, t553, t554⟩, A600, H⟩ := H
        replace H : (some (t549, t550, t553, t554)) = some (r1, r2, r3, r4) := H
        have A60 := Aside0.mk A600
        clear A600
        simp only [Option.some.injEq, Prod.mk.injEq] at H
        obtain ⟨rfl, rfl, rfl, rfl⟩ := H
        go_wp2_with (first | ((with_reducible refine gate_callee (f := 126) rfl ?_); refine goesL_ (some 26) rfl rfl Try.func126 (by kernel_rfl) rfl #[.int .i64 x5_12, .int .i64 a1] rfl (by (try simp only [List.map_toArray, List.map_cons, List.map_nil]); first | done | rfl | (simp only [List.length_drop, List.length_take]; rfl)) ?_; (with_reducible refine (spec_l1Least.calls x5_12 a1 t521 _ A17.out).mono ?_); rintro e w' ⟨rfl, ⟨nd, rfl⟩⟩; refine ⟨_, rfl, ?_⟩; (try (rw [drewN_self wc]; generalize hq_ : World.drewN wc _ = wc; have n0_ : Aside0 (wc.heap[gb508]? = some (.cells #[.int .i64 0, .slice none 0 0] 31 (0, 0))) := ⟨by rw [← hq_]; exact (by exact kP BK508.out)⟩; have n1_ : Aside0 (IsS91 w0 wc g s0_0 x1001_12 x1002_12) := ⟨by rw [← hq_]; exact (by exact sS)⟩; have n2_ : Aside0 (KeepBut w wc g none) := ⟨by rw [← hq_]; exact (by exact kK)⟩; have n3_ : Aside0 (Below w0.heap.size w0 wc) := ⟨by rw [← hq_]; exact (by exact bB)⟩; clear BK508 HI0 HK HB hq_; have BK508 := n0_; have HI0 := n1_; have HK := n2_; have HB := n3_; clear n0_ n1_ n2_ n3_))) | ((with_reducible refine gate_dst (N := 28) rfl ?_); refine Kd.R_lit k119 _ 119 ?hg (N := 28) ?hd (xs := ([] : List (S119))) (inner := []) (ok := fun _ => True) (okp := fun _ => True) ?hr ?hp (fun _ hk => hk) trivial (Below.refl _ _) (Nat.le_refl _) (by simp) ?_; (case hd => rfl); (case hg => rfl); (case hr => first | (go_simp; done) | (go_simp; rfl)); (case hp => exact (Reps.none _ _)); intro v523 w61 ho62 hb hg_ hnew_; clear hg_ hnew_; (first | rw [← Ny522.out] at ho62 | (simp only [Int.reduceToNat] at ho62; rw [← Ny522.out] at ho62)); have n0_ := Aside0.mk (Kd.R_lower ho62 (keep_size (w := w) (g := g) (row := none) (by exact kK))); have n1_ := Aside0.mk (blk_below (g := gb508) (o := .cells #[.int .i64 0, .slice none 0 0] 31 (0, 0)) (by exact kP BK508.out) hb); have n2_ := Aside0.mk (IsS91.below (by repeat (first | (with_reducible first | exact HI0.out | apply IsS91.alloc | apply IsS91.drewN | apply IsS91.drew | apply IsS91.set_1 | apply IsS91.set_2 | refine IsS91.far ?_ NB0_508.out _) | exact HI0.out)) hb); have n3_ := Aside0.mk (KeepBut.trans (by exact kK) (KeepBut.of_below hb g none) (.inl rfl)); have n4_ := Aside0.mk (below_step (by exact bB) hb); clear BK508; clear HI0; clear HK; clear HB; have HO524 := n0_; have BK508 := n1_; have HI0 := n2_; have HK := n3_; have HB := n4_; clear n0_ n1_ n2_ n3_ n4_; clear hb ho62; obtain ⟨Ao63, co63, eo63⟩ := Kd.R_slice HO524.out; subst eo63) | ((with_reducible refine gate_dst (N := 6) rfl ?_); refine box_event ?hg (N := 6) ?hd (cs := #[.int .i64 0, .slice none 0 0]) (t := 31) ?hr ?_; (case hd => rfl); (case hg => rfl); (case hr => first | (go_simp; done) | (go_simp; rfl)); intro gb525 hg w64 hbox hb; have n0_ := Aside0.mk (Kd.R_below (by exact rP HO524.out) hb); have n1_ := Aside0.mk (blk_below (g := gb508) (o := .cells #[.int .i64 0, .slice none 0 0] 31 (0, 0)) (by exact kP BK508.out) hb); have n2_ := Aside0.mk (IsS91.below (by repeat (first | (with_reducible first | exact HI0.out | apply IsS91.alloc | apply IsS91.drewN | apply IsS91.drew | apply IsS91.set_1 | apply IsS91.set_2 | refine IsS91.far ?_ NB0_508.out _) | exact HI0.out)) hb); have n3_ := Aside0.mk (KeepBut.trans (by exact kK) (KeepBut.of_below hb g none) (.inl rfl)); have n4_ := Aside0.mk (below_step (by exact bB) hb); have n5_ := Aside0.mk (hbox); have n6_ := Aside0.mk ((by rw [hg]; exact (keep_size (w := w) (g := g) (row := none) (by exact kK)) : w.heap.size ≤ gb525)); have n7_ := Aside0.mk ((Nat.le_trans HW0.out (by rw [hg]; exact (keep_size (w := w) (g := g) (row := none) (by exact kK)) : w.heap.size ≤ gb525) : w0.heap.size ≤ gb525)); have n8_ := Aside0.mk ((by rw [hg]; exact Nat.ne_of_lt (blk_lt (g := gb508) (o := .cells #[.int .i64 0, .slice none 0 0] 31 (0, 0)) (by exact kP BK508.out)) : gb508 ≠ gb525)); have n9_ := Aside0.mk ((by rw [hg]; exact Nat.ne_of_gt (blk_lt (g := gb508) (o := .cells #[.int .i64 0, .slice none 0 0] 31 (0, 0)) (by exact kP BK508.out)) : gb525 ≠ gb508)); have n10_ := Aside0.mk ((by rw [hg]; exact Nat.ne_of_lt (IsS91.lt (show IsS91 w0 _ g s0_0 x1001_12 x1002_12 from by exact sS)) : g ≠ gb525)); have n11_ := Aside0.mk ((by rw [hg]; exact Nat.ne_of_gt (IsS91.lt (show IsS91 w0 _ g s0_0 x1001_12 x1002_12 from by exact sS)) : gb525 ≠ g)); clear HO524; clear BK508; clear HI0; clear HK; clear HB; have HO524 := n0_; have BK508 := n1_; have HI0 := n2_; have HK := n3_; have HB := n4_; have BK525 := n5_; have GW525 := n6_; have GE525 := n7_; have NB508_525 := n8_; have NB525_508 := n9_; have NB0_525 := n10_; have NB525_0 := n11_; clear n0_ n1_ n2_ n3_ n4_ n5_ n6_ n7_ n8_ n9_ n10_ n11_; clear hb hbox hg; have hnb65 := NB525_508.out; have hnc65 := NB508_525.out; have hnb66 := NB525_0.out; have hnc66 := NB0_525.out; have hcz67_0 : w64.cell? ⟨gb525, 0, none⟩ = some (.int .i64 0) := (blk_cell BK525.out 0).trans rfl; have hcz67_1 : w64.cell? ⟨gb525, 1, none⟩ = some (.slice none 0 0) := (blk_cell BK525.out 1).trans rfl; have hfz67_0 := blk_frozen BK525.out 0; have hfz67_1 := blk_frozen BK525.out 1) | ((with_reducible refine gate_callee (f := 131) rfl ?_); refine goesL_ (some 31) rfl rfl Try.func131 (by kernel_rfl) rfl #[.pointer (some ⟨g, 0, none⟩), .int .i64 8] rfl (by (try simp only [List.map_toArray, List.map_cons, List.map_nil]); first | done | rfl | (simp only [List.length_drop, List.length_take]; rfl)) ?_; (with_reducible refine (spec_l1Cur_pick.calls g s0_0 x1001_12 x1002_12 8 t526 t527 t528 w0 _ ?side1 ?side2 A18.out).mono ?_); (case side1 => exact sS); (case side2 => exact bB); rintro e w68 ⟨rfl, hi, hb, hk⟩; refine ⟨_, rfl, ?_⟩; have n0_ := Aside0.mk (KeepBut.blk hk (g' := gb508) (o := .cells #[.int .i64 0, .slice none 0 0] 31 (0, 0)) (by refine kP ?_; refine blk_far ?_ NB508_525.out _; refine kP ?_; refine blk_far ?_ NB508_525.out _; exact kP BK508.out) NB508_0.out (by simp)); have n1_ := Aside0.mk (Kd.R_mono (Kd.R_keep (IsS91.apart (show IsS91 w0 _ g s0_0 x1001_12 x1002_12 from by exact sS) (by exact rP ((Kd.R_mono (Kd.R_far (p := ⟨gb525, 1, none⟩) (Kd.R_far (p := ⟨gb525, 0, none⟩) (Kd.R_types HO524.out BK525.out (by decide)) (fun _ hk => hk.2) (.int .i64 t521)) (fun _ hk => hk.2) (.slice Ao63 y522.length co63)) (fun _ h_ => h_.1)))) (by decide)) hk (fun _ h => h.2)) (fun _ h => h.1)); have n2_ := Aside0.mk (KeepBut.blk hk (g' := gb525) (o := .cells #[.int .i64 t521, .slice Ao63 y522.length co63] 31 (0, 0)) (by refine kP ?_; refine blk_put (cs := #[.int .i64 t521, .slice none 0 0]) ?_ 1 _ rfl; refine kP ?_; refine blk_put (cs := #[.int .i64 0, .slice none 0 0]) ?_ 0 _ rfl; exact kP BK525.out) NB525_0.out (by simp)); have n3_ := Aside0.mk (KeepBut.trans (by exact kK) hk (.inl rfl)); have n4_ := Aside0.mk (hb); have n5_ := Aside0.mk (hi); clear BK508; clear HO524; clear BK525; clear HK; clear HB; clear HI0; have BK508 := n0_; have HO524 := n1_; have BK525 := n2_; have HK := n3_; have HB := n4_; have HI0 := n5_; clear n0_ n1_ n2_ n3_ n4_ n5_; (try clear hb); (try clear hb2); (try clear hk); (try clear hi); have hcz69_0 : w68.cell? ⟨gb525, 0, none⟩ = some (.int .i64 t521) := (blk_cell BK525.out 0).trans rfl; have hcz69_1 : w68.cell? ⟨gb525, 1, none⟩ = some (.slice Ao63 y522.length co63) := (blk_cell BK525.out 1).trans rfl; have hfz69_0 := blk_frozen BK525.out 0; have hfz69_1 := blk_frozen BK525.out 1) | ((with_reducible refine gate_callee (f := 138) rfl ?_); refine goesL_ (some 100) rfl rfl Try.func138 (by kernel_rfl) rfl #[.pointer (some ⟨g, 0, none⟩), .agg #[.int .i64 t521, .slice Ao63 y522.length co63]] rfl (by (try simp only [List.map_toArray, List.map_cons, List.map_nil]); first | done | rfl | (simp only [List.length_drop, List.length_take]; rfl)) ?_; (with_reducible refine (spec_l1Cur_marred.calls g s0_0 t527 t528 t521 (fun k_ => some k_ = (.slice Ao63 y522.length co63 : Value).ownBlock) (.slice Ao63 y522.length co63) y522 t549 t550 t553 t554 w0 _ ?side1 ?side2 ?side3 A60.out).mono ?_); (case side1 => exact sS); (case side2 => exact bB); (case side3 => exact Kd.R_lower (Kd.R_tight rfl HO524.out) HL.out); rintro e w70 ⟨v551, rfl, ho0, hi, hb, hkp⟩; refine ⟨_, rfl, ?_⟩; have n0_ := Aside0.mk (blk_kept (by exact kP BK508.out) hkp (fun hs_ => Or.elim hs_ (fun hs_ => (fun e_ => (Kd.R_ne HO524.out BK508.out (by decide)) e_) hs_) (fun e_ => NB508_0.out e_))); have n1_ := Aside0.mk (hi); have n2_ := Aside0.mk (blk_kept (by exact kP BK525.out) hkp (fun hs_ => Or.elim hs_ (fun hs_ => (fun e_ => (Kd.R_ne HO524.out BK525.out (by decide)) e_) hs_) (fun e_ => NB525_0.out e_))); have n3_ := Aside0.mk (Kd.R_mono (ok' := fun k_ => True) (Kd.R_raise (d := k119) (b := w0.heap.size) (b' := w.heap.size) (fun _ _ _ _ h_ => h_) ho0 (fun k_ e_ => Or.elim (ho0.1 k_ e_) (fun hs_ => (fun e_ => Kd.R_base HO524.out k_ e_.symm) hs_) (fun hn_ => Nat.le_trans (keep_size (w := w) (g := g) (row := none) (by exact kK)) hn_))) (fun k_ hk_ => trivial)); have n4_ := Aside0.mk (Kept.keepG (by exact kK) hkp (fun k_ hs_ => Or.elim hs_ (fun hs_ => (fun e_ => .inr (Kd.R_base HO524.out k_ e_.symm)) hs_) (fun e_ => .inl e_))); have n5_ := Aside0.mk (hb); clear BK508; clear HI0; clear BK525; clear HK; clear HB; clear HO524; have BK508 := n0_; have HI0 := n1_; have BK525 := n2_; have HO552 := n3_; have HK := n4_; have HB := n5_; clear n0_ n1_ n2_ n3_ n4_ n5_; (try clear hb); (try clear hkp); (try clear ho0); have hnb71 := NB508_0.out; have hnc71 := NB0_508.out; have hcz72_0 : w70.cell? ⟨gb508, 0, none⟩ = some (.int .i64 0) := (blk_cell BK508.out 0).trans rfl; have hcz72_1 : w70.cell? ⟨gb508, 1, none⟩ = some (.slice none 0 0) := (blk_cell BK508.out 1).trans rfl; have hfz72_0 := blk_frozen BK508.out 0; have hfz72_1 := blk_frozen BK508.out 1; obtain ⟨Ao73, co73, eo73⟩ := Kd.R_slice HO552.out; subst eo73))
        refine bodyPost_ret (results_cell_row rfl _ _ gb508 31 #[.int .i64 t549, .slice Ao73 t550.length co73] (0, 0) _ rfl (by refine kP ?_; refine blk_put (cs := #[.int .i64 t549, .slice none 0 0]) ?_ 1 _ rfl; refine kP ?_; refine blk_put (cs := #[.int .i64 0, .slice none 0 0]) ?_ 0 _ rfl; exact kP BK508.out) Try.underlying31 rfl (by kernel_rfl)) rfl ?_
        exact ⟨_, by first | rfl | (simp [errW_none, errW_some] <;> rfl) | (simp [*, errW_none, errW_some] <;> rfl), by refine rP ?_; exact Kd.R_mono (Kd.R_far (p := ⟨gb508, 1, none⟩) (Kd.R_far (p := ⟨gb508, 0, none⟩) (Kd.R_types HO552.out BK508.out (by decide)) (fun _ hk => hk.2) (.int .i64 t549)) (fun _ hk => hk.2) (.slice Ao73 t550.length co73)) (fun _ hk => trivial), by exact sS, by exact bB, by exact kK⟩
      ·rw [if_neg c39] at H
       have c39b0 : (t526 == 1) = false := beq_eq_false_iff_ne.mpr c39
       have c39b1 : (t526 != 1) = true := bne_iff_ne.mpr c39
       by_cases c74 : t526 = 2
       ·rw [if_pos c74] at H
        have c74b0 : (t526 == 2) = true := beq_iff_eq.mpr c74
        have c74b1 : (t526 != 2) = false := bne_eq_false_iff_eq.mpr c74
        clear c74
        replace H := Option.bind_eq_some_iff.mp H
        obtain ⟨⟨t555, t556⟩, A750, H⟩ := H
        replace H : ((spec_l1Cur_marred.f s0_0 t527 t528 t555 t556).bind fun bt559 => (some (bt559.1, bt559.2.1, bt559.2.2.1, bt559.2.2.2))) = some (r1, r2, r3, r4) := H
        have A75 := Aside0.mk A750
        clear A750
        replace H := Option.bind_eq_some_iff.mp H
        obtain ⟨⟨t559, t560, t563, t564⟩, A760, H⟩ := H
        replace H : (some (t559, t560, t563, t564)) = some (r1, r2, r3, r4) := H
        have A76 := Aside0.mk A760
        clear A760
        simp only [Option.some.injEq, Prod.mk.injEq] at H
        obtain ⟨rfl, rfl, rfl, rfl⟩ := H
        go_wp2_with (first | ((with_reducible refine gate_callee (f := 126) rfl ?_); refine goesL_ (some 26) rfl rfl Try.func126 (by kernel_rfl) rfl #[.int .i64 x5_12, .int .i64 a1] rfl (by (try simp only [List.map_toArray, List.map_cons, List.map_nil]); first | done | rfl | (simp only [List.length_drop, List.length_take]; rfl)) ?_; (with_reducible refine (spec_l1Least.calls x5_12 a1 t521 _ A17.out).mono ?_); rintro e w' ⟨rfl, ⟨nd, rfl⟩⟩; refine ⟨_, rfl, ?_⟩; (try (rw [drewN_self wc]; generalize hq_ : World.drewN wc _ = wc; have n0_ : Aside0 (wc.heap[gb508]? = some (.cells #[.int .i64 0, .slice none 0 0] 31 (0, 0))) := ⟨by rw [← hq_]; exact (by exact kP BK508.out)⟩; have n1_ : Aside0 (IsS91 w0 wc g s0_0 x1001_12 x1002_12) := ⟨by rw [← hq_]; exact (by exact sS)⟩; have n2_ : Aside0 (KeepBut w wc g none) := ⟨by rw [← hq_]; exact (by exact kK)⟩; have n3_ : Aside0 (Below w0.heap.size w0 wc) := ⟨by rw [← hq_]; exact (by exact bB)⟩; clear BK508 HI0 HK HB hq_; have BK508 := n0_; have HI0 := n1_; have HK := n2_; have HB := n3_; clear n0_ n1_ n2_ n3_))) | ((with_reducible refine gate_dst (N := 28) rfl ?_); refine Kd.R_lit k119 _ 119 ?hg (N := 28) ?hd (xs := ([] : List (S119))) (inner := []) (ok := fun _ => True) (okp := fun _ => True) ?hr ?hp (fun _ hk => hk) trivial (Below.refl _ _) (Nat.le_refl _) (by simp) ?_; (case hd => rfl); (case hg => rfl); (case hr => first | (go_simp; done) | (go_simp; rfl)); (case hp => exact (Reps.none _ _)); intro v523 w77 ho78 hb hg_ hnew_; clear hg_ hnew_; (first | rw [← Ny522.out] at ho78 | (simp only [Int.reduceToNat] at ho78; rw [← Ny522.out] at ho78)); have n0_ := Aside0.mk (Kd.R_lower ho78 (keep_size (w := w) (g := g) (row := none) (by exact kK))); have n1_ := Aside0.mk (blk_below (g := gb508) (o := .cells #[.int .i64 0, .slice none 0 0] 31 (0, 0)) (by exact kP BK508.out) hb); have n2_ := Aside0.mk (IsS91.below (by repeat (first | (with_reducible first | exact HI0.out | apply IsS91.alloc | apply IsS91.drewN | apply IsS91.drew | apply IsS91.set_1 | apply IsS91.set_2 | refine IsS91.far ?_ NB0_508.out _) | exact HI0.out)) hb); have n3_ := Aside0.mk (KeepBut.trans (by exact kK) (KeepBut.of_below hb g none) (.inl rfl)); have n4_ := Aside0.mk (below_step (by exact bB) hb); clear BK508; clear HI0; clear HK; clear HB; have HO524 := n0_; have BK508 := n1_; have HI0 := n2_; have HK := n3_; have HB := n4_; clear n0_ n1_ n2_ n3_ n4_; clear hb ho78; obtain ⟨Ao79, co79, eo79⟩ := Kd.R_slice HO524.out; subst eo79) | ((with_reducible refine gate_dst (N := 6) rfl ?_); refine box_event ?hg (N := 6) ?hd (cs := #[.int .i64 0, .slice none 0 0]) (t := 31) ?hr ?_; (case hd => rfl); (case hg => rfl); (case hr => first | (go_simp; done) | (go_simp; rfl)); intro gb525 hg w80 hbox hb; have n0_ := Aside0.mk (Kd.R_below (by exact rP HO524.out) hb); have n1_ := Aside0.mk (blk_below (g := gb508) (o := .cells #[.int .i64 0, .slice none 0 0] 31 (0, 0)) (by exact kP BK508.out) hb); have n2_ := Aside0.mk (IsS91.below (by repeat (first | (with_reducible first | exact HI0.out | apply IsS91.alloc | apply IsS91.drewN | apply IsS91.drew | apply IsS91.set_1 | apply IsS91.set_2 | refine IsS91.far ?_ NB0_508.out _) | exact HI0.out)) hb); have n3_ := Aside0.mk (KeepBut.trans (by exact kK) (KeepBut.of_below hb g none) (.inl rfl)); have n4_ := Aside0.mk (below_step (by exact bB) hb); have n5_ := Aside0.mk (hbox); have n6_ := Aside0.mk ((by rw [hg]; exact (keep_size (w := w) (g := g) (row := none) (by exact kK)) : w.heap.size ≤ gb525)); have n7_ := Aside0.mk ((Nat.le_trans HW0.out (by rw [hg]; exact (keep_size (w := w) (g := g) (row := none) (by exact kK)) : w.heap.size ≤ gb525) : w0.heap.size ≤ gb525)); have n8_ := Aside0.mk ((by rw [hg]; exact Nat.ne_of_lt (blk_lt (g := gb508) (o := .cells #[.int .i64 0, .slice none 0 0] 31 (0, 0)) (by exact kP BK508.out)) : gb508 ≠ gb525)); have n9_ := Aside0.mk ((by rw [hg]; exact Nat.ne_of_gt (blk_lt (g := gb508) (o := .cells #[.int .i64 0, .slice none 0 0] 31 (0, 0)) (by exact kP BK508.out)) : gb525 ≠ gb508)); have n10_ := Aside0.mk ((by rw [hg]; exact Nat.ne_of_lt (IsS91.lt (show IsS91 w0 _ g s0_0 x1001_12 x1002_12 from by exact sS)) : g ≠ gb525)); have n11_ := Aside0.mk ((by rw [hg]; exact Nat.ne_of_gt (IsS91.lt (show IsS91 w0 _ g s0_0 x1001_12 x1002_12 from by exact sS)) : gb525 ≠ g)); clear HO524; clear BK508; clear HI0; clear HK; clear HB; have HO524 := n0_; have BK508 := n1_; have HI0 := n2_; have HK := n3_; have HB := n4_; have BK525 := n5_; have GW525 := n6_; have GE525 := n7_; have NB508_525 := n8_; have NB525_508 := n9_; have NB0_525 := n10_; have NB525_0 := n11_; clear n0_ n1_ n2_ n3_ n4_ n5_ n6_ n7_ n8_ n9_ n10_ n11_; clear hb hbox hg; have hnb81 := NB525_508.out; have hnc81 := NB508_525.out; have hnb82 := NB525_0.out; have hnc82 := NB0_525.out; have hcz83_0 : w80.cell? ⟨gb525, 0, none⟩ = some (.int .i64 0) := (blk_cell BK525.out 0).trans rfl; have hcz83_1 : w80.cell? ⟨gb525, 1, none⟩ = some (.slice none 0 0) := (blk_cell BK525.out 1).trans rfl; have hfz83_0 := blk_frozen BK525.out 0; have hfz83_1 := blk_frozen BK525.out 1) | ((with_reducible refine gate_callee (f := 131) rfl ?_); refine goesL_ (some 31) rfl rfl Try.func131 (by kernel_rfl) rfl #[.pointer (some ⟨g, 0, none⟩), .int .i64 8] rfl (by (try simp only [List.map_toArray, List.map_cons, List.map_nil]); first | done | rfl | (simp only [List.length_drop, List.length_take]; rfl)) ?_; (with_reducible refine (spec_l1Cur_pick.calls g s0_0 x1001_12 x1002_12 8 t526 t527 t528 w0 _ ?side1 ?side2 A18.out).mono ?_); (case side1 => exact sS); (case side2 => exact bB); rintro e w84 ⟨rfl, hi, hb, hk⟩; refine ⟨_, rfl, ?_⟩; have n0_ := Aside0.mk (KeepBut.blk hk (g' := gb508) (o := .cells #[.int .i64 0, .slice none 0 0] 31 (0, 0)) (by refine kP ?_; refine blk_far ?_ NB508_525.out _; refine kP ?_; refine blk_far ?_ NB508_525.out _; exact kP BK508.out) NB508_0.out (by simp)); have n1_ := Aside0.mk (Kd.R_mono (Kd.R_keep (IsS91.apart (show IsS91 w0 _ g s0_0 x1001_12 x1002_12 from by exact sS) (by exact rP ((Kd.R_mono (Kd.R_far (p := ⟨gb525, 1, none⟩) (Kd.R_far (p := ⟨gb525, 0, none⟩) (Kd.R_types HO524.out BK525.out (by decide)) (fun _ hk => hk.2) (.int .i64 t521)) (fun _ hk => hk.2) (.slice Ao79 y522.length co79)) (fun _ h_ => h_.1)))) (by decide)) hk (fun _ h => h.2)) (fun _ h => h.1)); have n2_ := Aside0.mk (KeepBut.blk hk (g' := gb525) (o := .cells #[.int .i64 t521, .slice Ao79 y522.length co79] 31 (0, 0)) (by refine kP ?_; refine blk_put (cs := #[.int .i64 t521, .slice none 0 0]) ?_ 1 _ rfl; refine kP ?_; refine blk_put (cs := #[.int .i64 0, .slice none 0 0]) ?_ 0 _ rfl; exact kP BK525.out) NB525_0.out (by simp)); have n3_ := Aside0.mk (KeepBut.trans (by exact kK) hk (.inl rfl)); have n4_ := Aside0.mk (hb); have n5_ := Aside0.mk (hi); clear BK508; clear HO524; clear BK525; clear HK; clear HB; clear HI0; have BK508 := n0_; have HO524 := n1_; have BK525 := n2_; have HK := n3_; have HB := n4_; have HI0 := n5_; clear n0_ n1_ n2_ n3_ n4_ n5_; (try clear hb); (try clear hb2); (try clear hk); (try clear hi)) | ((with_reducible refine gate_callee (f := 134) rfl ?_); refine goesL_ (some 97) rfl rfl Try.func134 (by kernel_rfl) rfl #[.int .i64 t521] rfl (by (try simp only [List.map_toArray, List.map_cons, List.map_nil]); first | done | rfl | (simp only [List.length_drop, List.length_take]; rfl)) ?_; (with_reducible refine (spec_l2Complete.calls kj12 t521 t555 t556 _ A75.out).mono ?_); rintro e w85 ⟨v557, rfl, ho0, hb⟩; refine ⟨_, rfl, ?_⟩; have n0_ := Aside0.mk (Kd.R_elder' (by exact rP HO524.out) (Kd.R_base ho0) hb); have n1_ := Aside0.mk (Kd.R_lower (Kd.R_new' ho0 (Kd.R_lt (by exact rP HO524.out))) (keep_size (w := w) (g := g) (row := none) (by exact kK))); have n2_ := Aside0.mk (blk_below (g := gb508) (o := .cells #[.int .i64 0, .slice none 0 0] 31 (0, 0)) (by exact kP BK508.out) hb); have n3_ := Aside0.mk (IsS91.below (by repeat (first | (with_reducible first | exact HI0.out | apply IsS91.alloc | apply IsS91.drewN | apply IsS91.drew | apply IsS91.set_1 | apply IsS91.set_2 | refine IsS91.far ?_ NB0_508.out _ | refine IsS91.far ?_ NB0_525.out _) | exact HI0.out)) hb); have n4_ := Aside0.mk (blk_below (g := gb525) (o := .cells #[.int .i64 t521, .slice Ao79 y522.length co79] 31 (0, 0)) (by exact kP BK525.out) hb); have n5_ := Aside0.mk (KeepBut.trans (by exact kK) (KeepBut.of_below hb g none) (.inl rfl)); have n6_ := Aside0.mk (below_step (by exact bB) hb); clear HO524; clear BK508; clear HI0; clear BK525; clear HK; clear HB; have HO524 := n0_; have HO558 := n1_; have BK508 := n2_; have HI0 := n3_; have BK525 := n4_; have HK := n5_; have HB := n6_; clear n0_ n1_ n2_ n3_ n4_ n5_ n6_; (try clear hb); (try clear hb2); (try clear hk); (try clear hi); (try clear ho0); have hcz86_0 : w85.cell? ⟨gb525, 0, none⟩ = some (.int .i64 t521) := (blk_cell BK525.out 0).trans rfl; have hcz86_1 : w85.cell? ⟨gb525, 1, none⟩ = some (.slice Ao79 y522.length co79) := (blk_cell BK525.out 1).trans rfl; have hfz86_0 := blk_frozen BK525.out 0; have hfz86_1 := blk_frozen BK525.out 1; obtain ⟨Ao87, co87, eo87⟩ := Kd.R_slice HO558.out; subst eo87) | ((with_reducible refine gate_store (t := 31) (p := 6) rfl ?_); refine store_event (t := 31) (p := 6) (v := ?vo_w88) (w1 := ((w85.setCell ⟨gb525, 0, none⟩ (.int .i64 t555)).setCell ⟨gb525, 1, none⟩ (.slice Ao87 t556.length co87))) ?hg ?ho ?hn ?hr ?_; (case ho => rfl); (case hg => rfl); (case hn => rfl); (case hr => first | (go_simp; done) | (go_simp; rfl)); intro w88 hw; have n0_ : Aside0 (Kd.R k119 119 w88 w.heap.size (fun k_ => some k_ ≠ (.slice Ao87 t556.length co87 : Value).ownBlock) (.slice Ao79 y522.length co79) y522) := ⟨(by rw [hw]; exact (by refine rP ?_; exact Kd.R_mono (Kd.R_far (p := ⟨gb525, 1, none⟩) (Kd.R_far (p := ⟨gb525, 0, none⟩) (Kd.R_types HO524.out BK525.out (by decide)) (fun _ hk => hk.2) (.int .i64 t555)) (fun _ hk => hk.2) (.slice Ao87 t556.length co87)) (fun _ hk => hk.1.2)))⟩; have n1_ : Aside0 (Kd.R k119 119 w88 w.heap.size (fun k_ => some k_ ≠ (.slice Ao79 y522.length co79 : Value).ownBlock) (.slice Ao87 t556.length co87) t556) := ⟨(by rw [hw]; exact (by refine rP ?_; exact Kd.R_mono (Kd.R_far (p := ⟨gb525, 1, none⟩) (Kd.R_far (p := ⟨gb525, 0, none⟩) (Kd.R_types HO558.out BK525.out (by decide)) (fun _ hk => hk.2) (.int .i64 t555)) (fun _ hk => hk.2) (.slice Ao87 t556.length co87)) (fun _ hk => hk.1.2)))⟩; have n2_ : Aside0 (w88.heap[gb508]? = some (.cells #[.int .i64 0, .slice none 0 0] 31 (0, 0))) := ⟨(by rw [hw]; exact (by refine kP ?_; refine blk_far ?_ NB508_525.out _; refine kP ?_; refine blk_far ?_ NB508_525.out _; exact kP BK508.out))⟩; have n3_ : Aside0 (w88.heap[gb525]? = some (.cells #[.int .i64 t555, .slice Ao87 t556.length co87] 31 (0, 0))) := ⟨(by rw [hw]; exact (by refine kP ?_; refine blk_put (cs := #[.int .i64 t555, .slice Ao79 y522.length co79]) ?_ 1 _ rfl; refine kP ?_; refine blk_put (cs := #[.int .i64 t521, .slice Ao79 y522.length co79]) ?_ 0 _ rfl; exact kP BK525.out))⟩; have n4_ : Aside0 (IsS91 w0 w88 g s0_0 t527 t528) := ⟨(by rw [hw]; exact (by exact sS))⟩; have n5_ : Aside0 (KeepBut w w88 g none) := ⟨(by rw [hw]; exact (by exact kK))⟩; have n6_ : Aside0 (Below w0.heap.size w0 w88) := ⟨(by rw [hw]; exact (by exact bB))⟩; clear hw; clear HO524; clear HO558; clear BK508; clear BK525; clear HI0; clear HK; clear HB; have HO524 := n0_; have HO558 := n1_; have BK508 := n2_; have BK525 := n3_; have HI0 := n4_; have HK := n5_; have HB := n6_; clear n0_ n1_ n2_ n3_ n4_ n5_ n6_; have hcz89_0 : w88.cell? ⟨gb525, 0, none⟩ = some (.int .i64 t555) := (blk_cell BK525.out 0).trans rfl; have hcz89_1 : w88.cell? ⟨gb525, 1, none⟩ = some (.slice Ao87 t556.length co87) := (blk_cell BK525.out 1).trans rfl; have hfz89_0 := blk_frozen BK525.out 0; have hfz89_1 := blk_frozen BK525.out 1) | ((with_reducible refine gate_callee (f := 138) rfl ?_); refine goesL_ (some 100) rfl rfl Try.func138 (by kernel_rfl) rfl #[.pointer (some ⟨g, 0, none⟩), .agg #[.int .i64 t555, .slice Ao87 t556.length co87]] rfl (by (try simp only [List.map_toArray, List.map_cons, List.map_nil]); first | done | rfl | (simp only [List.length_drop, List.length_take]; rfl)) ?_; (with_reducible refine (spec_l1Cur_marred.calls g s0_0 t527 t528 t555 (fun k_ => some k_ = (.slice Ao87 t556.length co87 : Value).ownBlock) (.slice Ao87 t556.length co87) t556 t559 t560 t563 t564 w0 _ ?side1 ?side2 ?side3 A76.out).mono ?_); (case side1 => exact sS); (case side2 => exact bB); (case side3 => exact Kd.R_lower (Kd.R_tight rfl HO558.out) HL.out); rintro e w90 ⟨v561, rfl, ho0, hi, hb, hkp⟩; refine ⟨_, rfl, ?_⟩; have n0_ := Aside0.mk (blk_kept (by exact kP BK508.out) hkp (fun hs_ => Or.elim hs_ (fun hs_ => (fun e_ => (Kd.R_ne HO558.out BK508.out (by decide)) e_) hs_) (fun e_ => NB508_0.out e_))); have n1_ := Aside0.mk (hi); have n2_ := Aside0.mk (Kd.R_mono (ok' := fun k_ => some k_ ≠ (v561 : Value).ownBlock) (Kd.R_keptB ((IsS91.apart HI0.out HO524.out (by decide))) hkp (fun k_ hk_ hs_ => Or.elim hs_ (fun hs_ => (hk_.1) hs_) (fun e_ => (hk_.2) e_))) (fun k_ hk_ => fun e_ => Or.elim (ho0.1 k_ e_.symm) (fun hs_ => hk_.2.1 (.inl hs_)) (fun hn_ => Nat.not_le.2 hk_.2.2 hn_))); have n3_ := Aside0.mk (blk_kept BK525.out hkp (fun hs_ => Or.elim hs_ (fun hs_ => (fun e_ => (Kd.R_ne HO558.out BK525.out (by decide)) e_) hs_) (fun e_ => NB525_0.out e_))); have n4_ := Aside0.mk (Kd.R_mono (ok' := fun k_ => some k_ ≠ (.slice Ao79 y522.length co79 : Value).ownBlock) (Kd.R_raise (d := k119) (b := w0.heap.size) (b' := w.heap.size) (fun _ _ _ _ h_ => h_) ho0 (fun k_ e_ => Or.elim (ho0.1 k_ e_) (fun hs_ => (fun e_ => Kd.R_base HO558.out k_ e_.symm) hs_) (fun hn_ => Nat.le_trans (keep_size (w := w) (g := g) (row := none) (by exact kK)) hn_))) (fun k_ hk_ => Or.elim hk_ (fun hs_ => fun e_ => ((((IsS91.apart HI0.out HO524.out (by decide))).1 k_ e_.symm).1) hs_) (fun hn_ => (Kd.fresh' (Kd.R_lt (by exact rP HO524.out)) k_ hn_)))); have n5_ := Aside0.mk (Kept.keepG (by exact kK) hkp (fun k_ hs_ => Or.elim hs_ (fun hs_ => (fun e_ => .inr (Kd.R_base HO558.out k_ e_.symm)) hs_) (fun e_ => .inl e_))); have n6_ := Aside0.mk (hb); clear BK508; clear HI0; clear HO524; clear BK525; clear HK; clear HB; clear HO558; have BK508 := n0_; have HI0 := n1_; have HO524 := n2_; have BK525 := n3_; have HO562 := n4_; have HK := n5_; have HB := n6_; clear n0_ n1_ n2_ n3_ n4_ n5_ n6_; (try clear hb); (try clear hkp); (try clear ho0); have hnb91 := NB508_0.out; have hnc91 := NB0_508.out; have hcz92_0 : w90.cell? ⟨gb508, 0, none⟩ = some (.int .i64 0) := (blk_cell BK508.out 0).trans rfl; have hcz92_1 : w90.cell? ⟨gb508, 1, none⟩ = some (.slice none 0 0) := (blk_cell BK508.out 1).trans rfl; have hfz92_0 := blk_frozen BK508.out 0; have hfz92_1 := blk_frozen BK508.out 1; obtain ⟨Ao93, co93, eo93⟩ := Kd.R_slice HO562.out; subst eo93))
        refine bodyPost_ret (results_cell_row rfl _ _ gb508 31 #[.int .i64 t559, .slice Ao93 t560.length co93] (0, 0) _ rfl (by refine kP ?_; refine blk_put (cs := #[.int .i64 t559, .slice none 0 0]) ?_ 1 _ rfl; refine kP ?_; refine blk_put (cs := #[.int .i64 0, .slice none 0 0]) ?_ 0 _ rfl; exact kP BK508.out) Try.underlying31 rfl (by kernel_rfl)) rfl ?_
        exact ⟨_, by first | rfl | (simp [errW_none, errW_some] <;> rfl) | (simp [*, errW_none, errW_some] <;> rfl), by refine rP ?_; exact Kd.R_mono (Kd.R_far (p := ⟨gb508, 1, none⟩) (Kd.R_far (p := ⟨gb508, 0, none⟩) (Kd.R_types HO562.out BK508.out (by decide)) (fun _ hk => hk.2) (.int .i64 t559)) (fun _ hk => hk.2) (.slice Ao93 t560.length co93)) (fun _ hk => trivial), by exact sS, by exact bB, by exact kK⟩
       ·rw [if_neg c74] at H
        have c74b0 : (t526 == 2) = false := beq_eq_false_iff_ne.mpr c74
        have c74b1 : (t526 != 2) = true := bne_iff_ne.mpr c74
        obtain ⟨y565, hy565⟩ : ∃ y_ : List Int, y_ = (([3, 4, 6] : List Int)) := ⟨_, rfl⟩
        replace H : ((spec_l1Cur_among.f s0_0 t527 t528 y565).bind fun bt568 => ((spec_l1Cur_one.f s0_0 bt568.2.1 bt568.2.2 6).bind fun bt571 => (spec_l1Cur_someGraph.l0 kj12 t521 bt568.1 bt571.1 0 s0_0 bt571.2.1 bt571.2.2 t521 y522))) = some (r1, r2, r3, r4) := by first | (rw [hy565]; with_reducible exact H) | (have H2_ := (Option.bind_some _ _).symm.trans H; rw [hy565]; with_reducible exact H2_) | (have H2_ := (Option.bind_some _ _).symm.trans H; with_reducible exact H2_) | with_reducible exact H | (rw [hy565]; exact H) | exact H
        have Ny565 := Aside0.mk hy565
        clear hy565
        replace H := Option.bind_eq_some_iff.mp H
        obtain ⟨⟨t568, t569, t570⟩, A940, H⟩ := H
        replace H : ((spec_l1Cur_one.f s0_0 t569 t570 6).bind fun bt571 => (spec_l1Cur_someGraph.l0 kj12 t521 t568 bt571.1 0 s0_0 bt571.2.1 bt571.2.2 t521 y522)) = some (r1, r2, r3, r4) := H
        have A94 := Aside0.mk A940
        clear A940
        replace H := Option.bind_eq_some_iff.mp H
        obtain ⟨⟨t571, t572, t573⟩, A950, H⟩ := H
        replace H : (spec_l1Cur_someGraph.l0 kj12 t521 t568 t571 0 s0_0 t572 t573 t521 y522) = some (r1, r2, r3, r4) := H
        have A95 := Aside0.mk A950
        clear A950
        have H' := Aside0.mk H
        clear H
        go_wp2_with (first | ((with_reducible refine gate_callee (f := 126) rfl ?_); refine goesL_ (some 26) rfl rfl Try.func126 (by kernel_rfl) rfl #[.int .i64 x5_12, .int .i64 a1] rfl (by (try simp only [List.map_toArray, List.map_cons, List.map_nil]); first | done | rfl | (simp only [List.length_drop, List.length_take]; rfl)) ?_; (with_reducible refine (spec_l1Least.calls x5_12 a1 t521 _ A17.out).mono ?_); rintro e w' ⟨rfl, ⟨nd, rfl⟩⟩; refine ⟨_, rfl, ?_⟩; (try (rw [drewN_self wc]; generalize hq_ : World.drewN wc _ = wc; have n0_ : Aside0 (wc.heap[gb508]? = some (.cells #[.int .i64 0, .slice none 0 0] 31 (0, 0))) := ⟨by rw [← hq_]; exact (by exact kP BK508.out)⟩; have n1_ : Aside0 (IsS91 w0 wc g s0_0 x1001_12 x1002_12) := ⟨by rw [← hq_]; exact (by exact sS)⟩; have n2_ : Aside0 (KeepBut w wc g none) := ⟨by rw [← hq_]; exact (by exact kK)⟩; have n3_ : Aside0 (Below w0.heap.size w0 wc) := ⟨by rw [← hq_]; exact (by exact bB)⟩; clear BK508 HI0 HK HB hq_; have BK508 := n0_; have HI0 := n1_; have HK := n2_; have HB := n3_; clear n0_ n1_ n2_ n3_))) | ((with_reducible refine gate_dst (N := 28) rfl ?_); refine Kd.R_lit k119 _ 119 ?hg (N := 28) ?hd (xs := ([] : List (S119))) (inner := []) (ok := fun _ => True) (okp := fun _ => True) ?hr ?hp (fun _ hk => hk) trivial (Below.refl _ _) (Nat.le_refl _) (by simp) ?_; (case hd => rfl); (case hg => rfl); (case hr => first | (go_simp; done) | (go_simp; rfl)); (case hp => exact (Reps.none _ _)); intro v523 w96 ho97 hb hg_ hnew_; clear hg_ hnew_; (first | rw [← Ny522.out] at ho97 | (simp only [Int.reduceToNat] at ho97; rw [← Ny522.out] at ho97)); have n0_ := Aside0.mk (Kd.R_lower ho97 (keep_size (w := w) (g := g) (row := none) (by exact kK))); have n1_ := Aside0.mk (blk_below (g := gb508) (o := .cells #[.int .i64 0, .slice none 0 0] 31 (0, 0)) (by exact kP BK508.out) hb); have n2_ := Aside0.mk (IsS91.below (by repeat (first | (with_reducible first | exact HI0.out | apply IsS91.alloc | apply IsS91.drewN | apply IsS91.drew | apply IsS91.set_1 | apply IsS91.set_2 | refine IsS91.far ?_ NB0_508.out _) | exact HI0.out)) hb); have n3_ := Aside0.mk (KeepBut.trans (by exact kK) (KeepBut.of_below hb g none) (.inl rfl)); have n4_ := Aside0.mk (below_step (by exact bB) hb); clear BK508; clear HI0; clear HK; clear HB; have HO524 := n0_; have BK508 := n1_; have HI0 := n2_; have HK := n3_; have HB := n4_; clear n0_ n1_ n2_ n3_ n4_; clear hb ho97; obtain ⟨Ao98, co98, eo98⟩ := Kd.R_slice HO524.out; subst eo98) | ((with_reducible refine gate_dst (N := 6) rfl ?_); refine box_event ?hg (N := 6) ?hd (cs := #[.int .i64 0, .slice none 0 0]) (t := 31) ?hr ?_; (case hd => rfl); (case hg => rfl); (case hr => first | (go_simp; done) | (go_simp; rfl)); intro gb525 hg w99 hbox hb; have n0_ := Aside0.mk (Kd.R_below (by exact rP HO524.out) hb); have n1_ := Aside0.mk (blk_below (g := gb508) (o := .cells #[.int .i64 0, .slice none 0 0] 31 (0, 0)) (by exact kP BK508.out) hb); have n2_ := Aside0.mk (IsS91.below (by repeat (first | (with_reducible first | exact HI0.out | apply IsS91.alloc | apply IsS91.drewN | apply IsS91.drew | apply IsS91.set_1 | apply IsS91.set_2 | refine IsS91.far ?_ NB0_508.out _) | exact HI0.out)) hb); have n3_ := Aside0.mk (KeepBut.trans (by exact kK) (KeepBut.of_below hb g none) (.inl rfl)); have n4_ := Aside0.mk (below_step (by exact bB) hb); have n5_ := Aside0.mk (hbox); have n6_ := Aside0.mk ((by rw [hg]; exact (keep_size (w := w) (g := g) (row := none) (by exact kK)) : w.heap.size ≤ gb525)); have n7_ := Aside0.mk ((Nat.le_trans HW0.out (by rw [hg]; exact (keep_size (w := w) (g := g) (row := none) (by exact kK)) : w.heap.size ≤ gb525) : w0.heap.size ≤ gb525)); have n8_ := Aside0.mk ((by rw [hg]; exact Nat.ne_of_lt (blk_lt (g := gb508) (o := .cells #[.int .i64 0, .slice none 0 0] 31 (0, 0)) (by exact kP BK508.out)) : gb508 ≠ gb525)); have n9_ := Aside0.mk ((by rw [hg]; exact Nat.ne_of_gt (blk_lt (g := gb508) (o := .cells #[.int .i64 0, .slice none 0 0] 31 (0, 0)) (by exact kP BK508.out)) : gb525 ≠ gb508)); have n10_ := Aside0.mk ((by rw [hg]; exact Nat.ne_of_lt (IsS91.lt (show IsS91 w0 _ g s0_0 x1001_12 x1002_12 from by exact sS)) : g ≠ gb525)); have n11_ := Aside0.mk ((by rw [hg]; exact Nat.ne_of_gt (IsS91.lt (show IsS91 w0 _ g s0_0 x1001_12 x1002_12 from by exact sS)) : gb525 ≠ g)); clear HO524; clear BK508; clear HI0; clear HK; clear HB; have HO524 := n0_; have BK508 := n1_; have HI0 := n2_; have HK := n3_; have HB := n4_; have BK525 := n5_; have GW525 := n6_; have GE525 := n7_; have NB508_525 := n8_; have NB525_508 := n9_; have NB0_525 := n10_; have NB525_0 := n11_; clear n0_ n1_ n2_ n3_ n4_ n5_ n6_ n7_ n8_ n9_ n10_ n11_; clear hb hbox hg; have hnb100 := NB525_508.out; have hnc100 := NB508_525.out; have hnb101 := NB525_0.out; have hnc101 := NB0_525.out; have hcz102_0 : w99.cell? ⟨gb525, 0, none⟩ = some (.int .i64 0) := (blk_cell BK525.out 0).trans rfl; have hcz102_1 : w99.cell? ⟨gb525, 1, none⟩ = some (.slice none 0 0) := (blk_cell BK525.out 1).trans rfl; have hfz102_0 := blk_frozen BK525.out 0; have hfz102_1 := blk_frozen BK525.out 1) | ((with_reducible refine gate_callee (f := 131) rfl ?_); refine goesL_ (some 31) rfl rfl Try.func131 (by kernel_rfl) rfl #[.pointer (some ⟨g, 0, none⟩), .int .i64 8] rfl (by (try simp only [List.map_toArray, List.map_cons, List.map_nil]); first | done | rfl | (simp only [List.length_drop, List.length_take]; rfl)) ?_; (with_reducible refine (spec_l1Cur_pick.calls g s0_0 x1001_12 x1002_12 8 t526 t527 t528 w0 _ ?side1 ?side2 A18.out).mono ?_); (case side1 => exact sS); (case side2 => exact bB); rintro e w103 ⟨rfl, hi, hb, hk⟩; refine ⟨_, rfl, ?_⟩; have n0_ := Aside0.mk (KeepBut.blk hk (g' := gb508) (o := .cells #[.int .i64 0, .slice none 0 0] 31 (0, 0)) (by refine kP ?_; refine blk_far ?_ NB508_525.out _; refine kP ?_; refine blk_far ?_ NB508_525.out _; exact kP BK508.out) NB508_0.out (by simp)); have n1_ := Aside0.mk (Kd.R_mono (Kd.R_keep (IsS91.apart (show IsS91 w0 _ g s0_0 x1001_12 x1002_12 from by exact sS) (by exact rP ((Kd.R_mono (Kd.R_far (p := ⟨gb525, 1, none⟩) (Kd.R_far (p := ⟨gb525, 0, none⟩) (Kd.R_types HO524.out BK525.out (by decide)) (fun _ hk => hk.2) (.int .i64 t521)) (fun _ hk => hk.2) (.slice Ao98 y522.length co98)) (fun _ h_ => h_.1)))) (by decide)) hk (fun _ h => h.2)) (fun _ h => h.1)); have n2_ := Aside0.mk (KeepBut.blk hk (g' := gb525) (o := .cells #[.int .i64 t521, .slice Ao98 y522.length co98] 31 (0, 0)) (by refine kP ?_; refine blk_put (cs := #[.int .i64 t521, .slice none 0 0]) ?_ 1 _ rfl; refine kP ?_; refine blk_put (cs := #[.int .i64 0, .slice none 0 0]) ?_ 0 _ rfl; exact kP BK525.out) NB525_0.out (by simp)); have n3_ := Aside0.mk (KeepBut.trans (by exact kK) hk (.inl rfl)); have n4_ := Aside0.mk (hb); have n5_ := Aside0.mk (hi); clear BK508; clear HO524; clear BK525; clear HK; clear HB; clear HI0; have BK508 := n0_; have HO524 := n1_; have BK525 := n2_; have HK := n3_; have HB := n4_; have HI0 := n5_; clear n0_ n1_ n2_ n3_ n4_ n5_; (try clear hb); (try clear hb2); (try clear hk); (try clear hi)) | ((with_reducible refine gate_dst (N := 33) rfl ?_); refine Kd.R_lit (Kd.int .i64) _ 3 ?hg (N := 33) ?hd (xs := ([3, 4, 6] : List Int)) (inner := [.int .i64 3, .int .i64 4, .int .i64 6]) (ok := fun _ => True) (okp := fun _ => True) ?hr ?hp (fun _ hk => hk) trivial (Below.refl _ _) (Nat.le_refl _) (by simp) ?_; (case hd => rfl); (case hg => rfl); (case hr => first | (go_simp; done) | (go_simp; rfl)); (case hp => exact (Reps.one (show Kd.M (Kd.int .i64) _ _ _ 3 [.int .i64 3] from rfl) (Reps.one (show Kd.M (Kd.int .i64) _ _ _ 4 [.int .i64 4] from rfl) (Reps.one (show Kd.M (Kd.int .i64) _ _ _ 6 [.int .i64 6] from rfl) (Reps.none _ _))))); intro v566 w104 ho105 hb hg_ hnew_; clear hg_ hnew_; (first | rw [← Ny565.out] at ho105 | (simp only [Int.reduceToNat] at ho105; rw [← Ny565.out] at ho105)); have n0_ := Aside0.mk (Kd.R_below (by exact rP HO524.out) hb); have n1_ := Aside0.mk (Kd.R_lower ho105 (keep_size (w := w) (g := g) (row := none) (by exact kK))); have n2_ := Aside0.mk (blk_below (g := gb508) (o := .cells #[.int .i64 0, .slice none 0 0] 31 (0, 0)) (by exact kP BK508.out) hb); have n3_ := Aside0.mk (IsS91.below (by repeat (first | (with_reducible first | exact HI0.out | apply IsS91.alloc | apply IsS91.drewN | apply IsS91.drew | apply IsS91.set_1 | apply IsS91.set_2 | refine IsS91.far ?_ NB0_508.out _ | refine IsS91.far ?_ NB0_525.out _) | exact HI0.out)) hb); have n4_ := Aside0.mk (blk_below (g := gb525) (o := .cells #[.int .i64 t521, .slice Ao98 y522.length co98] 31 (0, 0)) (by exact kP BK525.out) hb); have n5_ := Aside0.mk (KeepBut.trans (by exact kK) (KeepBut.of_below hb g none) (.inl rfl)); have n6_ := Aside0.mk (below_step (by exact bB) hb); clear HO524; clear BK508; clear HI0; clear BK525; clear HK; clear HB; have HO524 := n0_; have HO567 := n1_; have BK508 := n2_; have HI0 := n3_; have BK525 := n4_; have HK := n5_; have HB := n6_; clear n0_ n1_ n2_ n3_ n4_ n5_ n6_; clear hb ho105; obtain ⟨Ao106, co106, eo106⟩ := Kd.R_slice HO567.out; subst eo106) | ((with_reducible refine gate_callee (f := 129) rfl ?_); refine goesL_ (some 34) rfl rfl Try.func129 (by kernel_rfl) rfl #[.pointer (some ⟨g, 0, none⟩), .slice Ao106 y565.length co106] rfl (by (try simp only [List.map_toArray, List.map_cons, List.map_nil]); first | done | rfl | (simp only [List.length_drop, List.length_take]; rfl)) ?_; (with_reducible refine (spec_l1Cur_among.calls g s0_0 t527 t528 _ _ y565 t568 t569 t570 w0 _ ?side1 ?side2 ?side3 ?side4 ?side5 A94.out).mono ?_); (case side1 => exact sS); (case side2 => exact bB); (case side3 => exact cP (Kd.R_reads' HO567.out).2.2); (case side4 => exact (Kd.R_reads' HO567.out).2.1); (case side5 => exact far_slice (IsS91.own_ne HI0.out HO567.out (by decide))); rintro e w107 ⟨rfl, hi, hb, hk⟩; refine ⟨_, rfl, ?_⟩; have n0_ := Aside0.mk (KeepBut.blk hk (g' := gb508) (o := .cells #[.int .i64 0, .slice none 0 0] 31 (0, 0)) (by exact kP BK508.out) NB508_0.out (by simp)); have n1_ := Aside0.mk (Kd.R_mono (Kd.R_keep (IsS91.apart (show IsS91 w0 _ g s0_0 t527 t528 from by exact sS) (by exact rP HO524.out) (by decide)) hk (fun _ h => h.2)) (fun _ h => h.1)); have n2_ := Aside0.mk (KeepBut.blk hk (g' := gb525) (o := .cells #[.int .i64 t521, .slice Ao98 y522.length co98] 31 (0, 0)) (by exact kP BK525.out) NB525_0.out (by simp)); have n3_ := Aside0.mk (Kd.R_mono (Kd.R_keep (IsS91.apart (show IsS91 w0 _ g s0_0 t527 t528 from by exact sS) (by exact rP HO567.out) (by decide)) hk (fun _ h => h.2)) (fun _ h => h.1)); have n4_ := Aside0.mk (KeepBut.trans (by exact kK) hk (.inl rfl)); have n5_ := Aside0.mk (hb); have n6_ := Aside0.mk (hi); clear BK508; clear HO524; clear BK525; clear HO567; clear HK; clear HB; clear HI0; have BK508 := n0_; have HO524 := n1_; have BK525 := n2_; have HO567 := n3_; have HK := n4_; have HB := n5_; have HI0 := n6_; clear n0_ n1_ n2_ n3_ n4_ n5_ n6_; (try clear hb); (try clear hb2); (try clear hk); (try clear hi)) | ((with_reducible refine gate_callee (f := 130) rfl ?_); refine goesL_ (some 36) rfl rfl Try.func130 (by kernel_rfl) rfl #[.pointer (some ⟨g, 0, none⟩), .int .i64 6] rfl (by (try simp only [List.map_toArray, List.map_cons, List.map_nil]); first | done | rfl | (simp only [List.length_drop, List.length_take]; rfl)) ?_; (with_reducible refine (spec_l1Cur_one.calls g s0_0 t569 t570 6 t571 t572 t573 w0 _ ?side1 ?side2 A95.out).mono ?_); (case side1 => exact sS); (case side2 => exact bB); rintro e w108 ⟨rfl, hi, hb, hk⟩; refine ⟨_, rfl, ?_⟩; have n0_ := Aside0.mk (KeepBut.blk hk (g' := gb508) (o := .cells #[.int .i64 0, .slice none 0 0] 31 (0, 0)) (by exact kP BK508.out) NB508_0.out (by simp)); have n1_ := Aside0.mk (Kd.R_mono (Kd.R_keep (IsS91.apart (show IsS91 w0 _ g s0_0 t569 t570 from by exact sS) (by exact rP HO524.out) (by decide)) hk (fun _ h => h.2)) (fun _ h => h.1)); have n2_ := Aside0.mk (KeepBut.blk hk (g' := gb525) (o := .cells #[.int .i64 t521, .slice Ao98 y522.length co98] 31 (0, 0)) (by exact kP BK525.out) NB525_0.out (by simp)); have n3_ := Aside0.mk (Kd.R_mono (Kd.R_keep (IsS91.apart (show IsS91 w0 _ g s0_0 t569 t570 from by exact sS) (by exact rP HO567.out) (by decide)) hk (fun _ h => h.2)) (fun _ h => h.1)); have n4_ := Aside0.mk (KeepBut.trans (by exact kK) hk (.inl rfl)); have n5_ := Aside0.mk (hb); have n6_ := Aside0.mk (hi); clear BK508; clear HO524; clear BK525; clear HO567; clear HK; clear HB; clear HI0; have BK508 := n0_; have HO524 := n1_; have BK525 := n2_; have HO567 := n3_; have HK := n4_; have HB := n5_; have HI0 := n6_; clear n0_ n1_ n2_ n3_ n4_ n5_ n6_; (try clear hb); (try clear hb2); (try clear hk); (try clear hi)))
        go_loopg [9] kj12 (fun kq v9 w' => ∃ (x9_3 : Int) (x1001_3 : Int) (x1002_3 : Int) (x526001_3 : List (S119)) (u526001 : Value), v9 = .int .i64 x9_3 ∧ Aside0 (spec_l1Cur_someGraph.l0 kq t521 t568 t571 x9_3 s0_0 x1001_3 x1002_3 t521 x526001_3 = some (r1, r2, r3, r4)) ∧ Aside0 (kq ≤ kj12) ∧ Aside0 (Kd.R k119 119 w' w.heap.size (fun _ => True) u526001 x526001_3) ∧ Aside0 (w'.heap[gb508]? = some (.cells #[.int .i64 0, (.slice none 0 0)] 31 (0, 0))) ∧ Aside0 (w'.heap[gb525]? = some (.cells #[.int .i64 t521, u526001] 31 (0, 0))) ∧ Aside0 (IsS91 w0 w' g s0_0 x1001_3 x1002_3) ∧ Aside0 (KeepBut w w' g none) ∧ Aside0 (Below w0.heap.size w0 w'))
        case atStart => exact ⟨(0), (t572), (t573), (y522), (.slice Ao98 y522.length co98), (by first | rfl | (simp; done) | (simp [*]; done)), H', ⟨Nat.le_refl _⟩, ⟨by exact rP HO524.out⟩, ⟨by exact kP BK508.out⟩, ⟨by exact kP BK525.out⟩, ⟨by exact sS⟩, ⟨by exact kK⟩, ⟨by exact bB⟩⟩
        case round =>
         clear H'
         try clear c1
         try clear c2
         try clear p2
         try clear c3
         try clear c4
         try clear c5
         try clear c6
         try clear p6
         try clear c7
         try clear c8
         try clear c9
         try clear c10
         try clear c10b0
         try clear c12
         try clear c13
         try clear c14
         try clear c19
         try clear c19b0
         try clear c19b1
         try clear c26
         try clear c27
         try clear c36
         try clear c39
         try clear c39b0
         try clear c39b1
         try clear c40
         try clear c40b0
         try clear c47
         try clear c48
         try clear c57
         try clear p64
         try clear c65
         try clear c66
         try clear c71
         try clear c74
         try clear c74b0
         try clear c74b1
         try clear c79
         try clear c81
         try clear c82
         try clear c91
         try clear c100
         try clear c101
         try clear hcz102_0
         try clear hcz102_1
         try clear hcz28_0
         try clear hcz28_1
         try clear hcz31_0
         try clear hcz31_1
         try clear hcz34_0
         try clear hcz34_1
         try clear hcz37_0
         try clear hcz37_1
         try clear hcz49_0
         try clear hcz49_1
         try clear hcz52_0
         try clear hcz52_1
         try clear hcz55_0
         try clear hcz55_1
         try clear hcz58_0
         try clear hcz58_1
         try clear hcz67_0
         try clear hcz67_1
         try clear hcz69_0
         try clear hcz69_1
         try clear hcz72_0
         try clear hcz72_1
         try clear hcz83_0
         try clear hcz83_1
         try clear hcz86_0
         try clear hcz86_1
         try clear hcz89_0
         try clear hcz89_1
         try clear hcz92_0
         try clear hcz92_1
         try clear hfz102_0
         try clear hfz102_1
         try clear hfz28_0
         try clear hfz28_1
         try clear hfz31_0
         try clear hfz31_1
         try clear hfz34_0
         try clear hfz34_1
         try clear hfz37_0
         try clear hfz37_1
         try clear hfz49_0
         try clear hfz49_1
         try clear hfz52_0
         try clear hfz52_1
         try clear hfz55_0
         try clear hfz55_1
         try clear hfz58_0
         try clear hfz58_1
         try clear hfz67_0
         try clear hfz67_1
         try clear hfz69_0
         try clear hfz69_1
         try clear hfz72_0
         try clear hfz72_1
         try clear hfz83_0
         try clear hfz83_1
         try clear hfz86_0
         try clear hfz86_1
         try clear hfz89_0
         try clear hfz89_1
         try clear hfz92_0
         try clear hfz92_1
         try clear p2
         try clear p6
         obtain ⟨x9_3, x1001_3, x1002_3, x526001_3, u526001, rfl, HA, HK3, HO_526001, BK508, BK525, HI0, HK, HB⟩ := hrel
         cases gk with
         | zero => exact absurd HA.out (by simp [spec_l1Cur_someGraph.l0])
         | succ k3 =>
          have H := HA.out
          clear HA
          simp only [spec_l1Cur_someGraph.l0] at H
          by_cases c109 : x9_3 < t521
          ·rw [if_pos c109] at H
           have c109b0 : decide (x9_3 < t521) = true := decide_eq_true c109
           clear c109
           have H' := Aside0.mk H
           clear H
           go_wp2
           go_loopg [10] k3 (fun kq v10 w' => ∃ (x10_4 : Int) (x1001_4 : Int) (x1002_4 : Int) (x526001_4 : List (S119)) (u526001 : Value), v10 = .int .i64 x10_4 ∧ Aside0 (spec_l1Cur_someGraph.l1 kq t521 t568 t571 x9_3 x10_4 s0_0 x1001_4 x1002_4 t521 x526001_4 = some (r1, r2, r3, r4)) ∧ Aside0 (kq ≤ k3) ∧ Aside0 (Kd.R k119 119 w' w.heap.size (fun _ => True) u526001 x526001_4) ∧ Aside0 (w'.heap[gb508]? = some (.cells #[.int .i64 0, (.slice none 0 0)] 31 (0, 0))) ∧ Aside0 (w'.heap[gb525]? = some (.cells #[.int .i64 t521, u526001] 31 (0, 0))) ∧ Aside0 (IsS91 w0 w' g s0_0 x1001_4 x1002_4) ∧ Aside0 (KeepBut w w' g none) ∧ Aside0 (Below w0.heap.size w0 w'))
           case atStart => exact ⟨(wrap64 (x9_3 + 1)), (x1001_3), (x1002_3), (x526001_3), (u526001), (by first | rfl | (simp; done) | (simp [*]; done)), H', ⟨Nat.le_refl _⟩, ⟨by exact rP HO_526001.out⟩, ⟨by exact kP BK508.out⟩, ⟨by exact kP BK525.out⟩, ⟨by exact sS⟩, ⟨by exact kK⟩, ⟨by exact bB⟩⟩
           case round =>
            clear H'
            try clear c1
            try clear c2
            try clear p2
            try clear c3
            try clear c4
            try clear c5
            try clear c6
            try clear p6
            try clear c7
            try clear c8
            try clear c9
            try clear c10
            try clear c10b0
            try clear c12
            try clear c13
            try clear c14
            try clear c19
            try clear c19b0
            try clear c19b1
            try clear c26
            try clear c27
            try clear c36
            try clear c39
            try clear c39b0
            try clear c39b1
            try clear c40
            try clear c40b0
            try clear c47
            try clear c48
            try clear c57
            try clear p64
            try clear c65
            try clear c66
            try clear c71
            try clear c74
            try clear c74b0
            try clear c74b1
            try clear c79
            try clear c81
            try clear c82
            try clear c91
            try clear c100
            try clear c101
            try clear c109
            try clear c109b0
            try clear hcz102_0
            try clear hcz102_1
            try clear hcz28_0
            try clear hcz28_1
            try clear hcz31_0
            try clear hcz31_1
            try clear hcz34_0
            try clear hcz34_1
            try clear hcz37_0
            try clear hcz37_1
            try clear hcz49_0
            try clear hcz49_1
            try clear hcz52_0
            try clear hcz52_1
            try clear hcz55_0
            try clear hcz55_1
            try clear hcz58_0
            try clear hcz58_1
            try clear hcz67_0
            try clear hcz67_1
            try clear hcz69_0
            try clear hcz69_1
            try clear hcz72_0
            try clear hcz72_1
            try clear hcz83_0
            try clear hcz83_1
            try clear hcz86_0
            try clear hcz86_1
            try clear hcz89_0
            try clear hcz89_1
            try clear hcz92_0
            try clear hcz92_1
            try clear hfz102_0
            try clear hfz102_1
            try clear hfz28_0
            try clear hfz28_1
            try clear hfz31_0
            try clear hfz31_1
            try clear hfz34_0
            try clear hfz34_1
            try clear hfz37_0
            try clear hfz37_1
            try clear hfz49_0
            try clear hfz49_1
            try clear hfz52_0
            try clear hfz52_1
            try clear hfz55_0
            try clear hfz55_1
            try clear hfz58_0
            try clear hfz58_1
            try clear hfz67_0
            try clear hfz67_1
            try clear hfz69_0
            try clear hfz69_1
            try clear hfz72_0
            try clear hfz72_1
            try clear hfz83_0
            try clear hfz83_1
            try clear hfz86_0
            try clear hfz86_1
            try clear hfz89_0
            try clear hfz89_1
            try clear hfz92_0
            try clear hfz92_1
            try clear p2
            try clear p6
            try clear p64
            obtain ⟨x10_4, x1001_4, x1002_4, x526001_4, u526001, rfl, HA, HK4, HO_526001, BK508, BK525, HI0, HK, HB⟩ := hrel
            cases gk with
            | zero => exact absurd HA.out (by simp [spec_l1Cur_someGraph.l1])
            | succ k4 =>
             have H := HA.out
             clear HA
             simp only [spec_l1Cur_someGraph.l1] at H
             by_cases c110 : x10_4 < t521
             ·rw [if_pos c110] at H
              have c110b0 : decide (x10_4 < t521) = true := decide_eq_true c110
              clear c110
              replace H := Option.bind_eq_some_iff.mp H
              obtain ⟨⟨t580, t581, t582⟩, A1110, H⟩ := H
              replace H : (if t580 = 0 then ((spec_l2Put.f k4 x526001_4 x9_3 x10_4).bind fun t583 => (spec_l1Cur_someGraph.l1 k4 t521 t568 t571 x9_3 (wrap64 (x10_4 + 1)) s0_0 t581 t582 t521 t583)) else (spec_l1Cur_someGraph.l1 k4 t521 t568 t571 x9_3 (wrap64 (x10_4 + 1)) s0_0 t581 t582 t521 x526001_4)) = some (r1, r2, r3, r4) := H
              have A111 := Aside0.mk A1110
              clear A1110
              by_cases c112 : t580 = 0
              ·rw [if_pos c112] at H
               have c112b0 : (t580 == 0) = true := beq_iff_eq.mpr c112
               have c112b1 : (t580 != 0) = false := bne_eq_false_iff_eq.mpr c112
               clear c112
               replace H := Option.bind_eq_some_iff.mp H
               obtain ⟨t583, A1130, H⟩ := H
               replace H : (spec_l1Cur_someGraph.l1 k4 t521 t568 t571 x9_3 (wrap64 (x10_4 + 1)) s0_0 t581 t582 t521 t583) = some (r1, r2, r3, r4) := H
               have A113 := Aside0.mk A1130
               clear A1130
               have H' := Aside0.mk H
               clear H
               go_wp2_with (first | ((with_reducible refine gate_callee (f := 131) rfl ?_); refine goesL_ (some 51) rfl rfl Try.func131 (by kernel_rfl) rfl #[.pointer (some ⟨g, 0, none⟩), .int .i64 t568] rfl (by (try simp only [List.map_toArray, List.map_cons, List.map_nil]); first | done | rfl | (simp only [List.length_drop, List.length_take]; rfl)) ?_; (with_reducible refine (spec_l1Cur_pick.calls g s0_0 x1001_4 x1002_4 t568 t580 t581 t582 w0 _ ?side1 ?side2 A111.out).mono ?_); (case side1 => exact sS); (case side2 => exact bB); rintro e w114 ⟨rfl, hi, hb, hk⟩; refine ⟨_, rfl, ?_⟩; have n0_ := Aside0.mk (Kd.R_mono (Kd.R_keep (IsS91.apart (show IsS91 w0 _ g s0_0 x1001_4 x1002_4 from by exact sS) (by exact rP HO_526001.out) (by decide)) hk (fun _ h => h.2)) (fun _ h => h.1)); have n1_ := Aside0.mk (KeepBut.blk hk (g' := gb508) (o := .cells #[.int .i64 0, .slice none 0 0] 31 (0, 0)) (by exact kP BK508.out) NB508_0.out (by simp)); have n2_ := Aside0.mk (KeepBut.blk hk (g' := gb525) (o := .cells #[.int .i64 t521, u526001] 31 (0, 0)) (by exact kP BK525.out) NB525_0.out (by simp)); have n3_ := Aside0.mk (KeepBut.trans (by exact kK) hk (.inl rfl)); have n4_ := Aside0.mk (hb); have n5_ := Aside0.mk (hi); clear HO_526001; clear BK508; clear BK525; clear HK; clear HB; clear HI0; have HO_526001 := n0_; have BK508 := n1_; have BK525 := n2_; have HK := n3_; have HB := n4_; have HI0 := n5_; clear n0_ n1_ n2_ n3_ n4_ n5_; (try clear hb); (try clear hb2); (try clear hk); (try clear hi); have hnb115 := NB525_508.out; have hnc115 := NB508_525.out; have hnb116 := NB525_0.out; have hnc116 := NB0_525.out; have hcz117_0 : w114.cell? ⟨gb525, 0, none⟩ = some (.int .i64 t521) := (blk_cell BK525.out 0).trans rfl; have hcz117_1 : w114.cell? ⟨gb525, 1, none⟩ = some (u526001) := (blk_cell BK525.out 1).trans rfl; have hfz117_0 := blk_frozen BK525.out 0; have hfz117_1 := blk_frozen BK525.out 1; obtain ⟨Ao118, co118, eo118⟩ := Kd.R_slice HO_526001.out; subst eo118) | ((with_reducible refine gate_callee (f := 135) rfl ?_); refine goesL_ (some 58) rfl rfl Try.func135 (by kernel_rfl) rfl #[.slice Ao118 x526001_4.length co118, .agg #[.int .i64 x9_3, .int .i64 x10_4]] rfl (by (try simp only [List.map_toArray, List.map_cons, List.map_nil]); first | done | rfl | (simp only [List.length_drop, List.length_take]; rfl)) ?_; (with_reducible refine (spec_l2Put.calls k4 _ _ x526001_4 x9_3 x10_4 t583 _ ?side1 ?side2 A113.out).mono ?_); (case side1 => exact cP (Kd.R_reads' HO_526001.out).2.2); (case side2 => exact (Kd.R_reads' HO_526001.out).2.1); rintro e w119 ⟨v584, rfl, ho0, hb⟩; refine ⟨_, rfl, ?_⟩; have n0_ := Aside0.mk (Kd.R_elder' (by exact rP HO_526001.out) (Kd.R_base ho0) hb); have n1_ := Aside0.mk (Kd.R_lower (Kd.R_new' ho0 (Kd.R_lt (by exact rP HO_526001.out))) (keep_size (w := w) (g := g) (row := none) (by exact kK))); have n2_ := Aside0.mk (blk_below (g := gb508) (o := .cells #[.int .i64 0, .slice none 0 0] 31 (0, 0)) (by exact kP BK508.out) hb); have n3_ := Aside0.mk (blk_below (g := gb525) (o := .cells #[.int .i64 t521, .slice Ao118 x526001_4.length co118] 31 (0, 0)) (by exact kP BK525.out) hb); have n4_ := Aside0.mk (IsS91.below (by repeat (first | (with_reducible first | exact HI0.out | apply IsS91.alloc | apply IsS91.drewN | apply IsS91.drew | apply IsS91.set_1 | apply IsS91.set_2 | refine IsS91.far ?_ NB0_508.out _ | refine IsS91.far ?_ NB0_525.out _) | exact HI0.out)) hb); have n5_ := Aside0.mk (KeepBut.trans (by exact kK) (KeepBut.of_below hb g none) (.inl rfl)); have n6_ := Aside0.mk (below_step (by exact bB) hb); clear HO_526001; clear BK508; clear BK525; clear HI0; clear HK; clear HB; have HO_526001 := n0_; have HO585 := n1_; have BK508 := n2_; have BK525 := n3_; have HI0 := n4_; have HK := n5_; have HB := n6_; clear n0_ n1_ n2_ n3_ n4_ n5_ n6_; (try clear hb); (try clear hb2); (try clear hk); (try clear hi); (try clear ho0); obtain ⟨Ao120, co120, eo120⟩ := Kd.R_slice HO585.out; subst eo120; have hcz121_0 : w119.cell? ⟨gb525, 0, none⟩ = some (.int .i64 t521) := (blk_cell BK525.out 0).trans rfl; have hcz121_1 : w119.cell? ⟨gb525, 1, none⟩ = some (.slice Ao118 x526001_4.length co118) := (blk_cell BK525.out 1).trans rfl; have hfz121_0 := blk_frozen BK525.out 0; have hfz121_1 := blk_frozen BK525.out 1))
               go_roundg k4
               case measure => have := HJ3.out; have := HJ12.out; have := HK3.out; have := HK4.out; omega
               case rel => exact ⟨(wrap64 (x10_4 + 1)), (t581), (t582), (t583), (.slice Ao120 t583.length co120), (by first | rfl | (simp; done) | (simp [*]; done)), H', ⟨by have := HJ3.out; have := HJ12.out; have := HK3.out; have := HK4.out; omega⟩, ⟨by refine rP ?_; exact Kd.R_mono (Kd.R_far (p := ⟨gb525, 1, none⟩) (Kd.R_types HO585.out BK525.out (by decide)) (fun _ hk => hk.2) (.slice Ao120 t583.length co120)) (fun _ hk => trivial)⟩, ⟨by refine kP ?_; refine blk_far ?_ NB508_525.out _; exact kP BK508.out⟩, ⟨by refine kP ?_; refine blk_put (cs := #[.int .i64 t521, .slice Ao118 x526001_4.length co118]) ?_ 1 _ rfl; exact kP BK525.out⟩, ⟨by exact sS⟩, ⟨by exact kK⟩, ⟨by exact bB⟩⟩
              ·rw [if_neg c112] at H
               have c112b0 : (t580 == 0) = false := beq_eq_false_iff_ne.mpr c112
               have c112b1 : (t580 != 0) = true := bne_iff_ne.mpr c112
               have H' := Aside0.mk H
               clear H
               go_wp2_with (first | ((with_reducible refine gate_callee (f := 131) rfl ?_); refine goesL_ (some 51) rfl rfl Try.func131 (by kernel_rfl) rfl #[.pointer (some ⟨g, 0, none⟩), .int .i64 t568] rfl (by (try simp only [List.map_toArray, List.map_cons, List.map_nil]); first | done | rfl | (simp only [List.length_drop, List.length_take]; rfl)) ?_; (with_reducible refine (spec_l1Cur_pick.calls g s0_0 x1001_4 x1002_4 t568 t580 t581 t582 w0 _ ?side1 ?side2 A111.out).mono ?_); (case side1 => exact sS); (case side2 => exact bB); rintro e w122 ⟨rfl, hi, hb, hk⟩; refine ⟨_, rfl, ?_⟩; have n0_ := Aside0.mk (Kd.R_mono (Kd.R_keep (IsS91.apart (show IsS91 w0 _ g s0_0 x1001_4 x1002_4 from by exact sS) (by exact rP HO_526001.out) (by decide)) hk (fun _ h => h.2)) (fun _ h => h.1)); have n1_ := Aside0.mk (KeepBut.blk hk (g' := gb508) (o := .cells #[.int .i64 0, .slice none 0 0] 31 (0, 0)) (by exact kP BK508.out) NB508_0.out (by simp)); have n2_ := Aside0.mk (KeepBut.blk hk (g' := gb525) (o := .cells #[.int .i64 t521, u526001] 31 (0, 0)) (by exact kP BK525.out) NB525_0.out (by simp)); have n3_ := Aside0.mk (KeepBut.trans (by exact kK) hk (.inl rfl)); have n4_ := Aside0.mk (hb); have n5_ := Aside0.mk (hi); clear HO_526001; clear BK508; clear BK525; clear HK; clear HB; clear HI0; have HO_526001 := n0_; have BK508 := n1_; have BK525 := n2_; have HK := n3_; have HB := n4_; have HI0 := n5_; clear n0_ n1_ n2_ n3_ n4_ n5_; (try clear hb); (try clear hb2); (try clear hk); (try clear hi)))
               go_roundg k4
               case measure => have := HJ3.out; have := HJ12.out; have := HK3.out; have := HK4.out; omega
               case rel => exact ⟨(wrap64 (x10_4 + 1)), (t581), (t582), (x526001_4), (u526001), (by first | rfl | (simp; done) | (simp [*]; done)), H', ⟨by have := HJ3.out; have := HJ12.out; have := HK3.out; have := HK4.out; omega⟩, ⟨by exact rP HO_526001.out⟩, ⟨by exact kP BK508.out⟩, ⟨by exact kP BK525.out⟩, ⟨by exact sS⟩, ⟨by exact kK⟩, ⟨by exact bB⟩⟩
             ·rw [if_neg c110] at H
              have c110b0 : decide (x10_4 < t521) = false := decide_eq_false c110
              clear c110
              replace H := Option.bind_eq_some_iff.mp H
              obtain ⟨t586, A1230, H⟩ := H
              replace H : ((spec_l1Cur_pick.f s0_0 x1001_4 x1002_4 t586).bind fun bt587 => (if x9_3 > 0 then (if t571 = true then (spec_l1Cur_someGraph.l0 k4 t521 t568 t571 (wrap64 (x9_3 + 1)) s0_0 bt587.2.1 bt587.2.2 t521 x526001_4) else ((spec_l2Near.f k4 t521 x526001_4 x9_3 bt587.1).bind fun t590 => (if t590 = true then (spec_l1Cur_someGraph.l0 k4 t521 t568 t571 (wrap64 (x9_3 + 1)) s0_0 bt587.2.1 bt587.2.2 t521 x526001_4) else ((spec_l2Put.f k4 x526001_4 bt587.1 x9_3).bind fun t591 => (spec_l1Cur_someGraph.l0 k4 t521 t568 t571 (wrap64 (x9_3 + 1)) s0_0 bt587.2.1 bt587.2.2 t521 t591))))) else (spec_l1Cur_someGraph.l0 k4 t521 t568 t571 (wrap64 (x9_3 + 1)) s0_0 bt587.2.1 bt587.2.2 t521 x526001_4))) = some (r1, r2, r3, r4) := H
              have A123 := Aside0.mk A1230
              clear A1230
              replace H := Option.bind_eq_some_iff.mp H
              obtain ⟨⟨t587, t588, t589⟩, A1240, H⟩ := H
              replace H : (if x9_3 > 0 then (if t571 = true then (spec_l1Cur_someGraph.l0 k4 t521 t568 t571 (wrap64 (x9_3 + 1)) s0_0 t588 t589 t521 x526001_4) else ((spec_l2Near.f k4 t521 x526001_4 x9_3 t587).bind fun t590 => (if t590 = true then (spec_l1Cur_someGraph.l0 k4 t521 t568 t571 (wrap64 (x9_3 + 1)) s0_0 t588 t589 t521 x526001_4) else ((spec_l2Put.f k4 x526001_4 t587 x9_3).bind fun t591 => (spec_l1Cur_someGraph.l0 k4 t521 t568 t571 (wrap64 (x9_3 + 1)) s0_0 t588 t589 t521 t591))))) else (spec_l1Cur_someGraph.l0 k4 t521 t568 t571 (wrap64 (x9_3 + 1)) s0_0 t588 t589 t521 x526001_4)) = some (r1, r2, r3, r4) := H
              have A124 := Aside0.mk A1240
              clear A1240
              by_cases c125 : x9_3 > 0
              ·rw [if_pos c125] at H
               have c125b0 : decide (0 < x9_3) = true := decide_eq_true c125
               clear c125
               by_cases c126 : t571 = true
               ·subst c126
                have H1 : (spec_l1Cur_someGraph.l0 k4 t521 t568 true (wrap64 (x9_3 + 1)) s0_0 t588 t589 t521 x526001_4) = some (r1, r2, r3, r4) := by rw [if_pos rfl] at H; exact H
                clear H
                have H := H1
                clear H1
                have H' := Aside0.mk H
                clear H
                go_wp2_with (first | ((with_reducible refine gate_callee (f := 136) rfl ?_); refine goesL_ (some 62) rfl rfl Try.func136 (by kernel_rfl) rfl #[.int .i64 x9_3, .int .i64 1] rfl (by (try simp only [List.map_toArray, List.map_cons, List.map_nil]); first | done | rfl | (simp only [List.length_drop, List.length_take]; rfl)) ?_; (with_reducible refine (spec_l1Most.calls x9_3 1 t586 _ A123.out).mono ?_); rintro e w' ⟨rfl, ⟨nd, rfl⟩⟩; refine ⟨_, rfl, ?_⟩) | ((with_reducible refine gate_callee (f := 131) rfl ?_); refine goesL_ (some 63) rfl rfl Try.func131 (by kernel_rfl) rfl #[.pointer (some ⟨g, 0, none⟩), .int .i64 t586] rfl (by (try simp only [List.map_toArray, List.map_cons, List.map_nil]); first | done | rfl | (simp only [List.length_drop, List.length_take]; rfl)) ?_; (with_reducible refine (spec_l1Cur_pick.calls g s0_0 x1001_4 x1002_4 t586 t587 t588 t589 w0 _ ?side1 ?side2 A124.out).mono ?_); (case side1 => exact sS); (case side2 => exact bB); rintro e w127 ⟨rfl, hi, hb, hk⟩; refine ⟨_, rfl, ?_⟩; have n0_ := Aside0.mk (Kd.R_mono (Kd.R_keep (IsS91.apart (show IsS91 w0 _ g s0_0 x1001_4 x1002_4 from by exact sS) (by exact rP HO_526001.out) (by decide)) hk (fun _ h => h.2)) (fun _ h => h.1)); have n1_ := Aside0.mk (KeepBut.blk hk (g' := gb508) (o := .cells #[.int .i64 0, .slice none 0 0] 31 (0, 0)) (by exact kP BK508.out) NB508_0.out (by simp)); have n2_ := Aside0.mk (KeepBut.blk hk (g' := gb525) (o := .cells #[.int .i64 t521, u526001] 31 (0, 0)) (by exact kP BK525.out) NB525_0.out (by simp)); have n3_ := Aside0.mk (KeepBut.trans (by exact kK) hk (.inl rfl)); have n4_ := Aside0.mk (hb); have n5_ := Aside0.mk (hi); clear HO_526001; clear BK508; clear BK525; clear HK; clear HB; clear HI0; have HO_526001 := n0_; have BK508 := n1_; have BK525 := n2_; have HK := n3_; have HB := n4_; have HI0 := n5_; clear n0_ n1_ n2_ n3_ n4_ n5_; (try clear hb); (try clear hb2); (try clear hk); (try clear hi)))
                go_roundg k4
                case measure => have := HJ3.out; have := HJ12.out; have := HK3.out; have := HK4.out; omega
                case rel => exact ⟨(wrap64 (x9_3 + 1)), (t588), (t589), (x526001_4), (u526001), (by first | rfl | (simp; done) | (simp [*]; done)), H', ⟨by have := HJ3.out; have := HJ12.out; have := HK3.out; have := HK4.out; omega⟩, ⟨by exact rP HO_526001.out⟩, ⟨by exact kP BK508.out⟩, ⟨by exact kP BK525.out⟩, ⟨by exact sS⟩, ⟨by exact kK⟩, ⟨by exact bB⟩⟩
               ·replace c126 := Bool.eq_false_iff.mpr c126
                subst c126
                have H1 : ((spec_l2Near.f k4 t521 x526001_4 x9_3 t587).bind fun t590 => (if t590 = true then (spec_l1Cur_someGraph.l0 k4 t521 t568 false (wrap64 (x9_3 + 1)) s0_0 t588 t589 t521 x526001_4) else ((spec_l2Put.f k4 x526001_4 t587 x9_3).bind fun t591 => (spec_l1Cur_someGraph.l0 k4 t521 t568 false (wrap64 (x9_3 + 1)) s0_0 t588 t589 t521 t591)))) = some (r1, r2, r3, r4) := by rw [if_neg (show ¬ (false = true) by decide)] at H; exact H
                clear H
                have H := H1
                clear H1
                replace H := Option.bind_eq_some_iff.mp H
                obtain ⟨t590, A1280, H⟩ := H
                replace H : (if t590 = true then (spec_l1Cur_someGraph.l0 k4 t521 t568 false (wrap64 (x9_3 + 1)) s0_0 t588 t589 t521 x526001_4) else ((spec_l2Put.f k4 x526001_4 t587 x9_3).bind fun t591 => (spec_l1Cur_someGraph.l0 k4 t521 t568 false (wrap64 (x9_3 + 1)) s0_0 t588 t589 t521 t591))) = some (r1, r2, r3, r4) := H
                have A128 := Aside0.mk A1280
                clear A1280
                by_cases c129 : t590 = true
                ·subst c129
                 have H1 : (spec_l1Cur_someGraph.l0 k4 t521 t568 false (wrap64 (x9_3 + 1)) s0_0 t588 t589 t521 x526001_4) = some (r1, r2, r3, r4) := by rw [if_pos rfl] at H; exact H
                 clear H
                 have H := H1
                 clear H1
                 have H' := Aside0.mk H
                 clear H
                 go_wp2_with (first | ((with_reducible refine gate_callee (f := 136) rfl ?_); refine goesL_ (some 62) rfl rfl Try.func136 (by kernel_rfl) rfl #[.int .i64 x9_3, .int .i64 1] rfl (by (try simp only [List.map_toArray, List.map_cons, List.map_nil]); first | done | rfl | (simp only [List.length_drop, List.length_take]; rfl)) ?_; (with_reducible refine (spec_l1Most.calls x9_3 1 t586 _ A123.out).mono ?_); rintro e w' ⟨rfl, ⟨nd, rfl⟩⟩; refine ⟨_, rfl, ?_⟩) | ((with_reducible refine gate_callee (f := 131) rfl ?_); refine goesL_ (some 63) rfl rfl Try.func131 (by kernel_rfl) rfl #[.pointer (some ⟨g, 0, none⟩), .int .i64 t586] rfl (by (try simp only [List.map_toArray, List.map_cons, List.map_nil]); first | done | rfl | (simp only [List.length_drop, List.length_take]; rfl)) ?_; (with_reducible refine (spec_l1Cur_pick.calls g s0_0 x1001_4 x1002_4 t586 t587 t588 t589 w0 _ ?side1 ?side2 A124.out).mono ?_); (case side1 => exact sS); (case side2 => exact bB); rintro e w130 ⟨rfl, hi, hb, hk⟩; refine ⟨_, rfl, ?_⟩; have n0_ := Aside0.mk (Kd.R_mono (Kd.R_keep (IsS91.apart (show IsS91 w0 _ g s0_0 x1001_4 x1002_4 from by exact sS) (by exact rP HO_526001.out) (by decide)) hk (fun _ h => h.2)) (fun _ h => h.1)); have n1_ := Aside0.mk (KeepBut.blk hk (g' := gb508) (o := .cells #[.int .i64 0, .slice none 0 0] 31 (0, 0)) (by exact kP BK508.out) NB508_0.out (by simp)); have n2_ := Aside0.mk (KeepBut.blk hk (g' := gb525) (o := .cells #[.int .i64 t521, u526001] 31 (0, 0)) (by exact kP BK525.out) NB525_0.out (by simp)); have n3_ := Aside0.mk (KeepBut.trans (by exact kK) hk (.inl rfl)); have n4_ := Aside0.mk (hb); have n5_ := Aside0.mk (hi); clear HO_526001; clear BK508; clear BK525; clear HK; clear HB; clear HI0; have HO_526001 := n0_; have BK508 := n1_; have BK525 := n2_; have HK := n3_; have HB := n4_; have HI0 := n5_; clear n0_ n1_ n2_ n3_ n4_ n5_; (try clear hb); (try clear hb2); (try clear hk); (try clear hi); have hnb131 := NB525_508.out; have hnc131 := NB508_525.out; have hnb132 := NB525_0.out; have hnc132 := NB0_525.out; have hcz133_0 : w130.cell? ⟨gb525, 0, none⟩ = some (.int .i64 t521) := (blk_cell BK525.out 0).trans rfl; have hcz133_1 : w130.cell? ⟨gb525, 1, none⟩ = some (u526001) := (blk_cell BK525.out 1).trans rfl; have hfz133_0 := blk_frozen BK525.out 0; have hfz133_1 := blk_frozen BK525.out 1; obtain ⟨Ao134, co134, eo134⟩ := Kd.R_slice HO_526001.out; subst eo134) | (go_at_call 137; (with_reducible refine (spec_l2Near.calls k4 t521 _ _ x526001_4 x9_3 t587 true _ ?side1 ?side2 A128.out).mono ?_); (case side1 => exact cP (Kd.R_reads' HO_526001.out).2.2); (case side2 => exact (Kd.R_reads' HO_526001.out).2.1); rintro e w135 ⟨rfl, hb⟩; have n0_ := Aside0.mk (Kd.R_below (by exact rP HO_526001.out) hb); have n1_ := Aside0.mk (blk_below (g := gb508) (o := .cells #[.int .i64 0, .slice none 0 0] 31 (0, 0)) (by exact kP BK508.out) hb); have n2_ := Aside0.mk (blk_below (g := gb525) (o := .cells #[.int .i64 t521, .slice Ao134 x526001_4.length co134] 31 (0, 0)) (by exact kP BK525.out) hb); have n3_ := Aside0.mk (IsS91.below (by repeat (first | (with_reducible first | exact HI0.out | apply IsS91.alloc | apply IsS91.drewN | apply IsS91.drew | apply IsS91.set_1 | apply IsS91.set_2 | refine IsS91.far ?_ NB0_508.out _ | refine IsS91.far ?_ NB0_525.out _) | exact HI0.out)) hb); have n4_ := Aside0.mk (KeepBut.trans (by exact kK) (KeepBut.of_below hb g none) (.inl rfl)); have n5_ := Aside0.mk (below_step (by exact bB) hb); clear HO_526001; clear BK508; clear BK525; clear HI0; clear HK; clear HB; have HO_526001 := n0_; have BK508 := n1_; have BK525 := n2_; have HI0 := n3_; have HK := n4_; have HB := n5_; clear n0_ n1_ n2_ n3_ n4_ n5_; (try clear hb); (try clear hb2); (try clear hk); (try clear hi)))
                 go_roundg k4
                 case measure => have := HJ3.out; have := HJ12.out; have := HK3.out; have := HK4.out; omega
                 case rel => exact ⟨(wrap64 (x9_3 + 1)), (t588), (t589), (x526001_4), (.slice Ao134 x526001_4.length co134), (by first | rfl | (simp; done) | (simp [*]; done)), H', ⟨by have := HJ3.out; have := HJ12.out; have := HK3.out; have := HK4.out; omega⟩, ⟨by exact rP HO_526001.out⟩, ⟨by exact kP BK508.out⟩, ⟨by exact kP BK525.out⟩, ⟨by exact sS⟩, ⟨by exact kK⟩, ⟨by exact bB⟩⟩
                ·replace c129 := Bool.eq_false_iff.mpr c129
                 subst c129
                 have H1 : ((spec_l2Put.f k4 x526001_4 t587 x9_3).bind fun t591 => (spec_l1Cur_someGraph.l0 k4 t521 t568 false (wrap64 (x9_3 + 1)) s0_0 t588 t589 t521 t591)) = some (r1, r2, r3, r4) := by rw [if_neg (show ¬ (false = true) by decide)] at H; exact H
                 clear H
                 have H := H1
                 clear H1
                 replace H := Option.bind_eq_some_iff.mp H
                 obtain ⟨t591, A1360, H⟩ := H
                 replace H : (spec_l1Cur_someGraph.l0 k4 t521 t568 false (wrap64 (x9_3 + 1)) s0_0 t588 t589 t521 t591) = some (r1, r2, r3, r4) := H
                 have A136 := Aside0.mk A1360
                 clear A1360
                 have H' := Aside0.mk H
                 clear H
                 go_wp2_with (first | ((with_reducible refine gate_callee (f := 136) rfl ?_); refine goesL_ (some 62) rfl rfl Try.func136 (by kernel_rfl) rfl #[.int .i64 x9_3, .int .i64 1] rfl (by (try simp only [List.map_toArray, List.map_cons, List.map_nil]); first | done | rfl | (simp only [List.length_drop, List.length_take]; rfl)) ?_; (with_reducible refine (spec_l1Most.calls x9_3 1 t586 _ A123.out).mono ?_); rintro e w' ⟨rfl, ⟨nd, rfl⟩⟩; refine ⟨_, rfl, ?_⟩; (try (rw [drewN_self wr]; generalize hq_ : World.drewN wr _ = wr; have n0_ : Aside0 (Kd.R k119 119 wr w.heap.size (fun _ => True) u526001 x526001_4) := ⟨by rw [← hq_]; exact (by exact rP HO_526001.out)⟩; have n1_ : Aside0 (wr.heap[gb508]? = some (.cells #[.int .i64 0, .slice none 0 0] 31 (0, 0))) := ⟨by rw [← hq_]; exact (by exact kP BK508.out)⟩; have n2_ : Aside0 (wr.heap[gb525]? = some (.cells #[.int .i64 t521, u526001] 31 (0, 0))) := ⟨by rw [← hq_]; exact (by exact kP BK525.out)⟩; have n3_ : Aside0 (IsS91 w0 wr g s0_0 x1001_4 x1002_4) := ⟨by rw [← hq_]; exact (by exact sS)⟩; have n4_ : Aside0 (KeepBut w wr g none) := ⟨by rw [← hq_]; exact (by exact kK)⟩; have n5_ : Aside0 (Below w0.heap.size w0 wr) := ⟨by rw [← hq_]; exact (by exact bB)⟩; clear HO_526001 BK508 BK525 HI0 HK HB hq_; have HO_526001 := n0_; have BK508 := n1_; have BK525 := n2_; have HI0 := n3_; have HK := n4_; have HB := n5_; clear n0_ n1_ n2_ n3_ n4_ n5_))) | ((with_reducible refine gate_callee (f := 131) rfl ?_); refine goesL_ (some 63) rfl rfl Try.func131 (by kernel_rfl) rfl #[.pointer (some ⟨g, 0, none⟩), .int .i64 t586] rfl (by (try simp only [List.map_toArray, List.map_cons, List.map_nil]); first | done | rfl | (simp only [List.length_drop, List.length_take]; rfl)) ?_; (with_reducible refine (spec_l1Cur_pick.calls g s0_0 x1001_4 x1002_4 t586 t587 t588 t589 w0 _ ?side1 ?side2 A124.out).mono ?_); (case side1 => exact sS); (case side2 => exact bB); rintro e w137 ⟨rfl, hi, hb, hk⟩; refine ⟨_, rfl, ?_⟩; have n0_ := Aside0.mk (Kd.R_mono (Kd.R_keep (IsS91.apart (show IsS91 w0 _ g s0_0 x1001_4 x1002_4 from by exact sS) (by exact rP HO_526001.out) (by decide)) hk (fun _ h => h.2)) (fun _ h => h.1)); have n1_ := Aside0.mk (KeepBut.blk hk (g' := gb508) (o := .cells #[.int .i64 0, .slice none 0 0] 31 (0, 0)) (by exact kP BK508.out) NB508_0.out (by simp)); have n2_ := Aside0.mk (KeepBut.blk hk (g' := gb525) (o := .cells #[.int .i64 t521, u526001] 31 (0, 0)) (by exact kP BK525.out) NB525_0.out (by simp)); have n3_ := Aside0.mk (KeepBut.trans (by exact kK) hk (.inl rfl)); have n4_ := Aside0.mk (hb); have n5_ := Aside0.mk (hi); clear HO_526001; clear BK508; clear BK525; clear HK; clear HB; clear HI0; have HO_526001 := n0_; have BK508 := n1_; have BK525 := n2_; have HK := n3_; have HB := n4_; have HI0 := n5_; clear n0_ n1_ n2_ n3_ n4_ n5_; (try clear hb); (try clear hb2); (try clear hk); (try clear hi); have hnb138 := NB525_508.out; have hnc138 := NB508_525.out; have hnb139 := NB525_0.out; have hnc139 := NB0_525.out; have hcz140_0 : w137.cell? ⟨gb525, 0, none⟩ = some (.int .i64 t521) := (blk_cell BK525.out 0).trans rfl; have hcz140_1 : w137.cell? ⟨gb525, 1, none⟩ = some (u526001) := (blk_cell BK525.out 1).trans rfl; have hfz140_0 := blk_frozen BK525.out 0; have hfz140_1 := blk_frozen BK525.out 1; obtain ⟨Ao141, co141, eo141⟩ := Kd.R_slice HO_526001.out; subst eo141) | (go_at_call 137; (with_reducible refine (spec_l2Near.calls k4 t521 _ _ x526001_4 x9_3 t587 false _ ?side1 ?side2 A128.out).mono ?_); (case side1 => exact cP (Kd.R_reads' HO_526001.out).2.2); (case side2 => exact (Kd.R_reads' HO_526001.out).2.1); rintro e w142 ⟨rfl, hb⟩; have n0_ := Aside0.mk (Kd.R_below (by exact rP HO_526001.out) hb); have n1_ := Aside0.mk (blk_below (g := gb508) (o := .cells #[.int .i64 0, .slice none 0 0] 31 (0, 0)) (by exact kP BK508.out) hb); have n2_ := Aside0.mk (blk_below (g := gb525) (o := .cells #[.int .i64 t521, .slice Ao141 x526001_4.length co141] 31 (0, 0)) (by exact kP BK525.out) hb); have n3_ := Aside0.mk (IsS91.below (by repeat (first | (with_reducible first | exact HI0.out | apply IsS91.alloc | apply IsS91.drewN | apply IsS91.drew | apply IsS91.set_1 | apply IsS91.set_2 | refine IsS91.far ?_ NB0_508.out _ | refine IsS91.far ?_ NB0_525.out _) | exact HI0.out)) hb); have n4_ := Aside0.mk (KeepBut.trans (by exact kK) (KeepBut.of_below hb g none) (.inl rfl)); have n5_ := Aside0.mk (below_step (by exact bB) hb); clear HO_526001; clear BK508; clear BK525; clear HI0; clear HK; clear HB; have HO_526001 := n0_; have BK508 := n1_; have BK525 := n2_; have HI0 := n3_; have HK := n4_; have HB := n5_; clear n0_ n1_ n2_ n3_ n4_ n5_; (try clear hb); (try clear hb2); (try clear hk); (try clear hi); have hcz143_0 : w142.cell? ⟨gb525, 0, none⟩ = some (.int .i64 t521) := (blk_cell BK525.out 0).trans rfl; have hcz143_1 : w142.cell? ⟨gb525, 1, none⟩ = some (.slice Ao141 x526001_4.length co141) := (blk_cell BK525.out 1).trans rfl; have hfz143_0 := blk_frozen BK525.out 0; have hfz143_1 := blk_frozen BK525.out 1) | ((with_reducible refine gate_callee (f := 135) rfl ?_); refine goesL_ (some 82) rfl rfl Try.func135 (by kernel_rfl) rfl #[.slice Ao141 x526001_4.length co141, .agg #[.int .i64 t587, .int .i64 x9_3]] rfl (by (try simp only [List.map_toArray, List.map_cons, List.map_nil]); first | done | rfl | (simp only [List.length_drop, List.length_take]; rfl)) ?_; (with_reducible refine (spec_l2Put.calls k4 _ _ x526001_4 t587 x9_3 t591 _ ?side1 ?side2 A136.out).mono ?_); (case side1 => exact cP (Kd.R_reads' HO_526001.out).2.2); (case side2 => exact (Kd.R_reads' HO_526001.out).2.1); rintro e w144 ⟨v592, rfl, ho0, hb⟩; refine ⟨_, rfl, ?_⟩; have n0_ := Aside0.mk (Kd.R_elder' (by exact rP HO_526001.out) (Kd.R_base ho0) hb); have n1_ := Aside0.mk (Kd.R_lower (Kd.R_new' ho0 (Kd.R_lt (by exact rP HO_526001.out))) (keep_size (w := w) (g := g) (row := none) (by exact kK))); have n2_ := Aside0.mk (blk_below (g := gb508) (o := .cells #[.int .i64 0, .slice none 0 0] 31 (0, 0)) (by exact kP BK508.out) hb); have n3_ := Aside0.mk (blk_below (g := gb525) (o := .cells #[.int .i64 t521, .slice Ao141 x526001_4.length co141] 31 (0, 0)) (by exact kP BK525.out) hb); have n4_ := Aside0.mk (IsS91.below (by repeat (first | (with_reducible first | exact HI0.out | apply IsS91.alloc | apply IsS91.drewN | apply IsS91.drew | apply IsS91.set_1 | apply IsS91.set_2 | refine IsS91.far ?_ NB0_508.out _ | refine IsS91.far ?_ NB0_525.out _) | exact HI0.out)) hb); have n5_ := Aside0.mk (KeepBut.trans (by exact kK) (KeepBut.of_below hb g none) (.inl rfl)); have n6_ := Aside0.mk (below_step (by exact bB) hb); clear HO_526001; clear BK508; clear BK525; clear HI0; clear HK; clear HB; have HO_526001 := n0_; have HO593 := n1_; have BK508 := n2_; have BK525 := n3_; have HI0 := n4_; have HK := n5_; have HB := n6_; clear n0_ n1_ n2_ n3_ n4_ n5_ n6_; (try clear hb); (try clear hb2); (try clear hk); (try clear hi); (try clear ho0); obtain ⟨Ao145, co145, eo145⟩ := Kd.R_slice HO593.out; subst eo145; have hcz146_0 : w144.cell? ⟨gb525, 0, none⟩ = some (.int .i64 t521) := (blk_cell BK525.out 0).trans rfl; have hcz146_1 : w144.cell? ⟨gb525, 1, none⟩ = some (.slice Ao141 x526001_4.length co141) := (blk_cell BK525.out 1).trans rfl; have hfz146_0 := blk_frozen BK525.out 0; have hfz146_1 := blk_frozen BK525.out 1))
                 go_roundg k4
                 case measure => have := HJ3.out; have := HJ12.out; have := HK3.out; have := HK4.out; omega
                 case rel => exact ⟨(wrap64 (x9_3 + 1)), (t588), (t589), (t591), (.slice Ao145 t591.length co145), (by first | rfl | (simp; done) | (simp [*]; done)), H', ⟨by have := HJ3.out; have := HJ12.out; have := HK3.out; have := HK4.out; omega⟩, ⟨by refine rP ?_; exact Kd.R_mono (Kd.R_far (p := ⟨gb525, 1, none⟩) (Kd.R_types HO593.out BK525.out (by decide)) (fun _ hk => hk.2) (.slice Ao145 t591.length co145)) (fun _ hk => trivial)⟩, ⟨by refine kP ?_; refine blk_far ?_ NB508_525.out _; exact kP BK508.out⟩, ⟨by refine kP ?_; refine blk_put (cs := #[.int .i64 t521, .slice Ao141 x526001_4.length co141]) ?_ 1 _ rfl; exact kP BK525.out⟩, ⟨by exact sS⟩, ⟨by exact kK⟩, ⟨by exact bB⟩⟩
              ·rw [if_neg c125] at H
               have c125b0 : decide (0 < x9_3) = false := decide_eq_false c125
               clear c125
               have H' := Aside0.mk H
               clear H
               go_wp2_with (first | ((with_reducible refine gate_callee (f := 136) rfl ?_); refine goesL_ (some 62) rfl rfl Try.func136 (by kernel_rfl) rfl #[.int .i64 x9_3, .int .i64 1] rfl (by (try simp only [List.map_toArray, List.map_cons, List.map_nil]); first | done | rfl | (simp only [List.length_drop, List.length_take]; rfl)) ?_; (with_reducible refine (spec_l1Most.calls x9_3 1 t586 _ A123.out).mono ?_); rintro e w' ⟨rfl, ⟨nd, rfl⟩⟩; refine ⟨_, rfl, ?_⟩) | ((with_reducible refine gate_callee (f := 131) rfl ?_); refine goesL_ (some 63) rfl rfl Try.func131 (by kernel_rfl) rfl #[.pointer (some ⟨g, 0, none⟩), .int .i64 t586] rfl (by (try simp only [List.map_toArray, List.map_cons, List.map_nil]); first | done | rfl | (simp only [List.length_drop, List.length_take]; rfl)) ?_; (with_reducible refine (spec_l1Cur_pick.calls g s0_0 x1001_4 x1002_4 t586 t587 t588 t589 w0 _ ?side1 ?side2 A124.out).mono ?_); (case side1 => exact sS); (case side2 => exact bB); rintro e w147 ⟨rfl, hi, hb, hk⟩; refine ⟨_, rfl, ?_⟩; have n0_ := Aside0.mk (Kd.R_mono (Kd.R_keep (IsS91.apart (show IsS91 w0 _ g s0_0 x1001_4 x1002_4 from by exact sS) (by exact rP HO_526001.out) (by decide)) hk (fun _ h => h.2)) (fun _ h => h.1)); have n1_ := Aside0.mk (KeepBut.blk hk (g' := gb508) (o := .cells #[.int .i64 0, .slice none 0 0] 31 (0, 0)) (by exact kP BK508.out) NB508_0.out (by simp)); have n2_ := Aside0.mk (KeepBut.blk hk (g' := gb525) (o := .cells #[.int .i64 t521, u526001] 31 (0, 0)) (by exact kP BK525.out) NB525_0.out (by simp)); have n3_ := Aside0.mk (KeepBut.trans (by exact kK) hk (.inl rfl)); have n4_ := Aside0.mk (hb); have n5_ := Aside0.mk (hi); clear HO_526001; clear BK508; clear BK525; clear HK; clear HB; clear HI0; have HO_526001 := n0_; have BK508 := n1_; have BK525 := n2_; have HK := n3_; have HB := n4_; have HI0 := n5_; clear n0_ n1_ n2_ n3_ n4_ n5_; (try clear hb); (try clear hb2); (try clear hk); (try clear hi)))
               go_roundg k4
               case measure => have := HJ3.out; have := HJ12.out; have := HK3.out; have := HK4.out; omega
               case rel => exact ⟨(wrap64 (x9_3 + 1)), (t588), (t589), (x526001_4), (u526001), (by first | rfl | (simp; done) | (simp [*]; done)), H', ⟨by have := HJ3.out; have := HJ12.out; have := HK3.out; have := HK4.out; omega⟩, ⟨by exact rP HO_526001.out⟩, ⟨by exact kP BK508.out⟩, ⟨by exact kP BK525.out⟩, ⟨by exact sS⟩, ⟨by exact kK⟩, ⟨by exact bB⟩⟩
          ·rw [if_neg c109] at H
           have c109b0 : decide (x9_3 < t521) = false := decide_eq_false c109
           clear c109
           replace H := Option.bind_eq_some_iff.mp H
           obtain ⟨⟨t574, t575, t578, t579⟩, A1480, H⟩ := H
           replace H : (some (t574, t575, t578, t579)) = some (r1, r2, r3, r4) := H
           have A148 := Aside0.mk A1480
           clear A1480
           simp only [Option.some.injEq, Prod.mk.injEq] at H
           obtain ⟨rfl, rfl, rfl, rfl⟩ := H
           have hnb149 := NB525_508.out
           have hnc149 := NB508_525.out
           have hnb150 := NB525_0.out
           have hnc150 := NB0_525.out
           have hcz151_0 : wr.cell? ⟨gb525, 0, none⟩ = some (.int .i64 t521) := (blk_cell BK525.out 0).trans rfl
           have hcz151_1 : wr.cell? ⟨gb525, 1, none⟩ = some (u526001) := (blk_cell BK525.out 1).trans rfl
           have hfz151_0 := blk_frozen BK525.out 0
           have hfz151_1 := blk_frozen BK525.out 1
           obtain ⟨Ao152, co152, eo152⟩ := Kd.R_slice HO_526001.out
           subst eo152
           go_wp2_with (first | ((with_reducible refine gate_callee (f := 138) rfl ?_); refine goesL_ (some 100) rfl rfl Try.func138 (by kernel_rfl) rfl #[.pointer (some ⟨g, 0, none⟩), .agg #[.int .i64 t521, .slice Ao152 x526001_3.length co152]] rfl (by (try simp only [List.map_toArray, List.map_cons, List.map_nil]); first | done | rfl | (simp only [List.length_drop, List.length_take]; rfl)) ?_; (with_reducible refine (spec_l1Cur_marred.calls g s0_0 x1001_3 x1002_3 t521 (fun k_ => some k_ = (.slice Ao152 x526001_3.length co152 : Value).ownBlock) (.slice Ao152 x526001_3.length co152) x526001_3 t574 t575 t578 t579 w0 _ ?side1 ?side2 ?side3 A148.out).mono ?_); (case side1 => exact sS); (case side2 => exact bB); (case side3 => exact Kd.R_lower (Kd.R_tight rfl HO_526001.out) HL.out); rintro e w153 ⟨v576, rfl, ho0, hi, hb, hkp⟩; refine ⟨_, rfl, ?_⟩; have n0_ := Aside0.mk (blk_kept (by exact kP BK508.out) hkp (fun hs_ => Or.elim hs_ (fun hs_ => (fun e_ => (Kd.R_ne HO_526001.out BK508.out (by decide)) e_) hs_) (fun e_ => NB508_0.out e_))); have n1_ := Aside0.mk (blk_kept (by exact kP BK525.out) hkp (fun hs_ => Or.elim hs_ (fun hs_ => (fun e_ => (Kd.R_ne HO_526001.out BK525.out (by decide)) e_) hs_) (fun e_ => NB525_0.out e_))); have n2_ := Aside0.mk (hi); have n3_ := Aside0.mk (Kd.R_mono (ok' := fun k_ => True) (Kd.R_raise (d := k119) (b := w0.heap.size) (b' := w.heap.size) (fun _ _ _ _ h_ => h_) ho0 (fun k_ e_ => Or.elim (ho0.1 k_ e_) (fun hs_ => (fun e_ => Kd.R_base HO_526001.out k_ e_.symm) hs_) (fun hn_ => Nat.le_trans (keep_size (w := w) (g := g) (row := none) (by exact kK)) hn_))) (fun k_ hk_ => trivial)); have n4_ := Aside0.mk (Kept.keepG (by exact kK) hkp (fun k_ hs_ => Or.elim hs_ (fun hs_ => (fun e_ => .inr (Kd.R_base HO_526001.out k_ e_.symm)) hs_) (fun e_ => .inl e_))); have n5_ := Aside0.mk (hb); clear BK508; clear BK525; clear HI0; clear HK; clear HB; clear HO_526001; have BK508 := n0_; have BK525 := n1_; have HI0 := n2_; have HO577 := n3_; have HK := n4_; have HB := n5_; clear n0_ n1_ n2_ n3_ n4_ n5_; (try clear hb); (try clear hkp); (try clear ho0); have hnb154 := NB508_0.out; have hnc154 := NB0_508.out; have hcz155_0 : w153.cell? ⟨gb508, 0, none⟩ = some (.int .i64 0) := (blk_cell BK508.out 0).trans rfl; have hcz155_1 : w153.cell? ⟨gb508, 1, none⟩ = some (.slice none 0 0) := (blk_cell BK508.out 1).trans rfl; have hfz155_0 := blk_frozen BK508.out 0; have hfz155_1 := blk_frozen BK508.out 1; obtain ⟨Ao156, co156, eo156⟩ := Kd.R_slice HO577.out; subst eo156))
           refine bodyPost_ret (results_cell_row rfl _ _ gb508 31 #[.int .i64 t574, .slice Ao156 t575.length co156] (0, 0) _ rfl (by refine kP ?_; refine blk_put (cs := #[.int .i64 t574, .slice none 0 0]) ?_ 1 _ rfl; refine kP ?_; refine blk_put (cs := #[.int .i64 0, .slice none 0 0]) ?_ 0 _ rfl; exact kP BK508.out) Try.underlying31 rfl (by kernel_rfl)) rfl ?_
           exact ⟨_, by first | rfl | (simp [errW_none, errW_some] <;> rfl) | (simp [*, errW_none, errW_some] <;> rfl), by refine rP ?_; exact Kd.R_mono (Kd.R_far (p := ⟨gb508, 1, none⟩) (Kd.R_far (p := ⟨gb508, 0, none⟩) (Kd.R_types HO577.out BK508.out (by decide)) (fun _ hk => hk.2) (.int .i64 t574)) (fun _ hk => hk.2) (.slice Ao156 t575.length co156)) (fun _ hk => trivial), by exact sS, by exact bB, by exact kK⟩


end Go.Proofs.Ytmokkhfmbenleaa.QClosures
