import Derived.Test.YtaddgielnfhhpaaQBurningNumber0
import Derived.Test.YtaddgielnfhhpaaQBurningNumber10
namespace Go.Proofs.Ytaddgielnfhhpaa.QBurningNumber
open Go.RowKit Go.Proofs.YtaddgielnfhhpaaW.PrintWords Go.Proofs.YtaddgielnfhhpaaW.PrintLast Go.Proofs.YtaddgielnfhhpaaW.PrintMore
attribute [local go_sem] max2_int min2_int max_two min_two max_three min_three max_four min_four   -- for this text's walks alone
set_option linter.unusedVariables false
set_option linter.unusedSimpArgs false
/-! ### impl_net_burnAll: function 48 -/
mutual
def impl_net_burnAll.l0 : Nat → Int → Int → Int → Int → Int → Int → List Int → Option (List Int × Bool × Int × Int)
 | 0, _, _, _, _, _, _, _ => none
 | k + 1, x1, x2, x26, x27, x4000, x4001, x321000 => if x27 < x26 then ((impl_net_ball.f k x321000 x27 (wrap64 (x1 - 1))).bind fun t322 => ((impl_net_burnAll.f k x321000 (wrap64 (x1 - 1)) (Go.bits .or .i64 x2 t322) x4000 x4001).bind fun bt323 => (if bt323.2.1 = true then ((some (([x27] : List Int) : List Int)).bind fun y329 => (if y329.length + bt323.1.length < 17592186044416 then (some ((y329 ++ bt323.1), true, bt323.2.2.1, bt323.2.2.2)) else (none))) else (impl_net_burnAll.l0 k x1 x2 x26 (wrap64 (x27 + 1)) bt323.2.2.1 bt323.2.2.2 x321000)))) else (if kOk x1 x2 = true then (if x4001 < 4611686018427387904 then (some (([] : List Int), false, putK x4000 x1 x2, x4001 + 1)) else (none)) else (none))
def impl_net_burnAll.f : Nat → List Int → Int → Int → Int → Int → Option (List Int × Bool × Int × Int)
 | 0, _, _, _, _, _ => none
 | k + 1, l0_0, a1, a2, s3_0, s3_1 => if a1 = 0 then ((impl_net_all.f l0_0).bind fun t321 => (some (([] : List Int), (a2 == t321), s3_0, s3_1))) else (if kOk a1 a2 = true then (if hasK s3_0 a1 a2 = true then (some (([] : List Int), false, s3_0, s3_1)) else (impl_net_burnAll.l0 k a1 a2 (l0_0.length : Int) 0 s3_0 s3_1 l0_0)) else (none))
end
theorem impl_net_burnAll.mono_l : ∀ k, (∀ y0 y1 y2 y3 y4, LeO (impl_net_burnAll.f k y0 y1 y2 y3 y4) (impl_net_burnAll.f (k + 1) y0 y1 y2 y3 y4)) ∧ (∀ y0 y1 y2 y3 y4 y5 y6, LeO (impl_net_burnAll.l0 k y0 y1 y2 y3 y4 y5 y6) (impl_net_burnAll.l0 (k + 1) y0 y1 y2 y3 y4 y5 y6))
 | 0 => ⟨fun _ _ _ _ _ r h => by simp [impl_net_burnAll.f] at h, fun _ _ _ _ _ _ _ r h => by simp [impl_net_burnAll.l0] at h⟩
 | k + 1 => by
  obtain ⟨ih0, ih1⟩ := impl_net_burnAll.mono_l k
  refine ⟨?_, ?_⟩
  ·intro y0 y1 y2 y3 y4
   unfold impl_net_burnAll.f
   repeat' first
   | (with_reducible exact ih0 _ _ _ _ _)
   | (with_reducible exact ih1 _ _ _ _ _ _ _)
   | (with_reducible exact impl_net_ball.mono _ _ _ _)
   | (with_reducible exact LeO.refl _)
   | (with_reducible exact LeO.none _)
   | (with_reducible refine LeO.ite ?_ ?_)
   | (with_reducible refine LeO.bind ?_ (fun _ => ?_))
   | exact ih0 _ _ _ _ _
   | exact ih1 _ _ _ _ _ _ _
   | exact impl_net_ball.mono _ _ _ _
   | exact LeO.none _
   | refine LeO.ite ?_ ?_
   | refine LeO.bind ?_ (fun _ => ?_)
  ·intro y0 y1 y2 y3 y4 y5 y6
   unfold impl_net_burnAll.l0
   repeat' first
   | (with_reducible exact ih0 _ _ _ _ _)
   | (with_reducible exact ih1 _ _ _ _ _ _ _)
   | (with_reducible exact impl_net_ball.mono _ _ _ _)
   | (with_reducible exact LeO.refl _)
   | (with_reducible exact LeO.none _)
   | (with_reducible refine LeO.ite ?_ ?_)
   | (with_reducible refine LeO.bind ?_ (fun _ => ?_))
   | exact ih0 _ _ _ _ _
   | exact ih1 _ _ _ _ _ _ _
   | exact impl_net_ball.mono _ _ _ _
   | exact LeO.none _
   | refine LeO.ite ?_ ?_
   | refine LeO.bind ?_ (fun _ => ?_)
theorem impl_net_burnAll.mono : ∀ a0 a1 a2 a3 a4 k, LeO (impl_net_burnAll.f k a0 a1 a2 a3 a4) (impl_net_burnAll.f (k + 1) a0 a1 a2 a3 a4) := by
 intro a0 a1 a2 a3 a4 k
 obtain ⟨ih0, ih1⟩ := impl_net_burnAll.mono_l k
 exact ih0 a0 a1 a2 a3 a4
def impl_net_burnAll.T8 : Bool × List (List Nat × List Nat) := (true, [([], []), ([], []), ([1], [1]), ([], []), ([], []), ([], []), ([], []), ([6], [6]), ([4, 5, 7], [4, 5, 7]), ([3, 8], [3, 8]), ([], []), ([0, 2, 9, 10, 8], [0, 2, 9, 10]), ([11], [11]), ([12], [12]), ([12], [12]), ([13, 11, 0, 1, 2, 3, 4, 5, 6, 7, 8, 9, 10, 11, 12, 13], [13]), ([14, 15, 0, 1, 2, 3, 4, 5, 6, 7, 8, 9, 10, 11, 12, 13, 14, 15], [14])])
def impl_net_burnAll.B8 : List Nat := [0, 0, 2, 0, 0, 0, 0, 64, 240, 504, 0, 2047, 4095, 8191, 8191, 16383, 65535]
theorem impl_net_burnAll.tab8 : rtab .any (opsOf Try.f48 8) = impl_net_burnAll.T8 := by kernel_rfl
theorem impl_net_burnAll.bits8 : waitsOk impl_net_burnAll.T8.2 impl_net_burnAll.B8 = true := by kernel_rfl
set_option maxHeartbeats 8000000 in
set_option maxRecDepth 100000 in
theorem impl_net_burnAll.calls (k : Nat) : ∀ (A0_0 : Option Addr) (c0_0 : Nat) (l0_0 : List Int) (a1 : Int) (a2 : Int) (g : Nat) (s3_0 : Int) (s3_1 : Int) (r1 : List Int) (r2 : Bool) (r3 : Int) (r4 : Int) (w0 w : World) (hI : IsS74 w0 w g s3_0 s3_1) (hB : Below w0.heap.size w0 w) (hr0_0 : Kd.C (Kd.int .i64) w A0_0 l0_0.length l0_0) (hc0_0 : l0_0.length ≤ c0_0) (hf0_0 : ∀ ad, A0_0 = some ad → 0 < l0_0.length → ad.block ≠ g) (h : impl_net_burnAll.f k l0_0 a1 a2 s3_0 s3_1 = some (r1, r2, r3, r4)),
  Calls Try.prog 48 #[.agg #[.slice A0_0 l0_0.length c0_0], .int .i64 a1, .int .i64 a2, .map (some g)] w fun e w' => ∃ v0_ : Value, e = .returned (.tuple #[v0_, .bool r2]) ∧ Kd.R (Kd.int .i64) 3 w' w.heap.size (fun _ => True) v0_ r1 ∧ IsS74 w0 w' g r3 r4 ∧ Below w0.heap.size w0 w' ∧ KeepBut w w' g none := by
 induction k using Nat.strongRecOn with
 | _ k ih =>
 intro A0_0 c0_0 l0_0 a1 a2 g s3_0 s3_1 r1 r2 r3 r4 w0 w hI hB hr0_0 hc0_0 hf0_0 h
 cases k with
 | zero => exact absurd h (by simp [impl_net_burnAll.f])
 | succ k =>
 simp only [impl_net_burnAll.f] at h
 have hu56 := Try.underlying56
 have HR0_0 := Aside0.mk hr0_0
 have HC0_0 := Aside0.mk hc0_0
 clear hr0_0 hc0_0
 have HI3 := Aside0.mk hI
 have HK := Aside0.mk (KeepBut.refl w g none)
 have HL := Aside0.mk hB.size
 clear hI
 have HW0 := Aside0.mk hB.size
 have HB := Aside0.mk hB
 clear hB
 have H : (if a1 = 0 then ((impl_net_all.f l0_0).bind fun t321 => (some (([] : List Int), (a2 == t321), s3_0, s3_1))) else (if kOk a1 a2 = true then (if hasK s3_0 a1 a2 = true then (some (([] : List Int), false, s3_0, s3_1)) else (impl_net_burnAll.l0 k a1 a2 (l0_0.length : Int) 0 s3_0 s3_1 l0_0)) else (none))) = some (r1, r2, r3, r4) := h
 clear h
 by_cases c5 : a1 = 0
 ·rw [if_pos c5] at H
  have c5b0 : (a1 == 0) = true := beq_iff_eq.mpr c5
  have c5b1 : (a1 != 0) = false := bne_eq_false_iff_eq.mpr c5
  clear c5
  replace H := Option.bind_eq_some_iff.mp H
  obtain ⟨t321, A60, H⟩ := H
  replace H : (some (([] : List Int), (a2 == t321), s3_0, s3_1)) = some (r1, r2, r3, r4) := H
  have A6 := Aside0.mk A60
  clear A60
  simp only [Option.some.injEq, Prod.mk.injEq] at H
  obtain ⟨rfl, rfl, rfl, rfl⟩ := H
  go_enter Try.func48, Try.ntmps48
  go_wp2_with (first | ((with_reducible refine gate_dst (N := 4) rfl ?_);refine box_event ?hg (N := 4) ?hd (cs := #[.slice A0_0 l0_0.length c0_0]) (t := 56) ?hr ?_;(case hd => rfl);(case hg => rfl);(case hr => first | (go_simp;done) | (go_simp;rfl));intro gb320 hg w7 hbox hb;have n0_ := Aside0.mk (IsS74.below (by repeat (first | (with_reducible first | exact HI3.out | apply IsS74.alloc | apply IsS74.drewN | apply IsS74.drew | apply IsS74.set_0 | apply IsS74.set_1) | exact HI3.out)) hb);have n1_ := Aside0.mk (KeepBut.trans (by exact kK) (KeepBut.of_below hb g none) (.inl rfl));have n2_ := Aside0.mk (below_step (by exact bB) hb);have n3_ := Aside0.mk (hbox);have n4_ := Aside0.mk ((by rw [hg];exact (keep_size (w := w) (g := g) (row := none) (by exact kK)) : w.heap.size ≤ gb320));have n5_ := Aside0.mk ((Nat.le_trans HW0.out (by rw [hg];exact (keep_size (w := w) (g := g) (row := none) (by exact kK)) : w.heap.size ≤ gb320) : w0.heap.size ≤ gb320));have n6_ := Aside0.mk ((by rw [hg];exact Nat.ne_of_lt (IsS74.lt (show IsS74 w0 _ g s3_0 s3_1 from by exact sS)) : g ≠ gb320));have n7_ := Aside0.mk ((by rw [hg];exact Nat.ne_of_gt (IsS74.lt (show IsS74 w0 _ g s3_0 s3_1 from by exact sS)) : gb320 ≠ g));clear HI3;clear HK;clear HB;have HI3 := n0_;have HK := n1_;have HB := n2_;have BK320 := n3_;have GW320 := n4_;have GE320 := n5_;have NB3_320 := n6_;have NB320_3 := n7_;clear n0_ n1_ n2_ n3_ n4_ n5_ n6_ n7_;clear hb hbox hg;have hnb8 := NB320_3.out;have hnc8 := NB3_320.out;have hcz9_0 : w7.cell? ⟨gb320, 0, none⟩ = some (.slice A0_0 l0_0.length c0_0) := (blk_cell BK320.out 0).trans rfl;have hfz9_0 := blk_frozen BK320.out 0) | ((with_reducible refine gate_callee (f := 78) rfl ?_);refine goesL_ (some 17) rfl rfl Try.func78 (by kernel_rfl) rfl #[.agg #[.slice A0_0 l0_0.length c0_0]] rfl mM ?_;(with_reducible refine (impl_net_all.calls _ _ l0_0 t321 _ ?side1 ?side2 A6.out).mono ?_);(case side1 => exact Kd.C_keep 0 HR0_0.out (by exact kK) hf0_0);(case side2 => exact HC0_0.out);rintro e w10 ⟨rfl, hb⟩;refine ⟨_, rfl, ?_⟩;have n0_ := Aside0.mk (IsS74.below (by repeat (first | (with_reducible first | exact HI3.out | apply IsS74.alloc | apply IsS74.drewN | apply IsS74.drew | apply IsS74.set_0 | apply IsS74.set_1 | refine IsS74.far ?_ NB3_320.out _) | exact HI3.out)) hb);have n1_ := Aside0.mk (blk_below (g := gb320) (o := .cells #[.slice A0_0 l0_0.length c0_0] 56 (0, 0)) (by exact kP BK320.out) hb);have n2_ := Aside0.mk (KeepBut.trans (by exact kK) (KeepBut.of_below hb g none) (.inl rfl));have n3_ := Aside0.mk (below_step (by exact bB) hb);clear HI3;clear BK320;clear HK;clear HB;have HI3 := n0_;have BK320 := n1_;have HK := n2_;have HB := n3_;clear n0_ n1_ n2_ n3_;(try clear hb);(try clear hb2);(try clear hk);(try clear hi)))
  go_ret2
  exact ⟨_, by first | rfl | (simp [errW_none, errW_some] <;> rfl) | (simp [*, errW_none, errW_some] <;> rfl), by first | exact Kd.R_nil _ _ _ _ _ | exact Kd.N_nil _ _ _ _ _ | exact Kd.V_nil _ _ _ _ _ | exact Kd.Q_nil _ _ _ _ _ | exact Kd.S_nil _ _ _ _ _, by exact sS, by exact bB, by exact kK⟩
 ·rw [if_neg c5] at H
  have c5b0 : (a1 == 0) = false := beq_eq_false_iff_ne.mpr c5
  have c5b1 : (a1 != 0) = true := bne_iff_ne.mpr c5
  by_cases ck : kOk a1 a2 = true
  case neg => rw [if_neg ck] at H;exact absurd H (by simp)
  rw [if_pos ck] at H
  by_cases c11 : hasK s3_0 a1 a2 = true
  ·rw [if_pos c11] at H
   have c11b0 : hasK s3_0 a1 a2 = true := c11
   clear c11
   simp only [Option.some.injEq, Prod.mk.injEq] at H
   obtain ⟨rfl, rfl, rfl, rfl⟩ := H
   go_enter Try.func48, Try.ntmps48
   go_wp2_with (first | ((with_reducible refine gate_dst (N := 4) rfl ?_);refine box_event ?hg (N := 4) ?hd (cs := #[.slice A0_0 l0_0.length c0_0]) (t := 56) ?hr ?_;(case hd => rfl);(case hg => rfl);(case hr => first | (go_simp;done) | (go_simp;rfl));intro gb320 hg w12 hbox hb;have n0_ := Aside0.mk (IsS74.below (by repeat (first | (with_reducible first | exact HI3.out | apply IsS74.alloc | apply IsS74.drewN | apply IsS74.drew | apply IsS74.set_0 | apply IsS74.set_1) | exact HI3.out)) hb);have n1_ := Aside0.mk (KeepBut.trans (by exact kK) (KeepBut.of_below hb g none) (.inl rfl));have n2_ := Aside0.mk (below_step (by exact bB) hb);have n3_ := Aside0.mk (hbox);have n4_ := Aside0.mk ((by rw [hg];exact (keep_size (w := w) (g := g) (row := none) (by exact kK)) : w.heap.size ≤ gb320));have n5_ := Aside0.mk ((Nat.le_trans HW0.out (by rw [hg];exact (keep_size (w := w) (g := g) (row := none) (by exact kK)) : w.heap.size ≤ gb320) : w0.heap.size ≤ gb320));have n6_ := Aside0.mk ((by rw [hg];exact Nat.ne_of_lt (IsS74.lt (show IsS74 w0 _ g s3_0 s3_1 from by exact sS)) : g ≠ gb320));have n7_ := Aside0.mk ((by rw [hg];exact Nat.ne_of_gt (IsS74.lt (show IsS74 w0 _ g s3_0 s3_1 from by exact sS)) : gb320 ≠ g));clear HI3;clear HK;clear HB;have HI3 := n0_;have HK := n1_;have HB := n2_;have BK320 := n3_;have GW320 := n4_;have GE320 := n5_;have NB3_320 := n6_;have NB320_3 := n7_;clear n0_ n1_ n2_ n3_ n4_ n5_ n6_ n7_;clear hb hbox hg) | (at_lookup;refine look_event rfl _ _ rfl rfl rfl (HI3.out) ck c11b0 ?_))
   go_ret2
   exact ⟨_, by first | rfl | (simp [errW_none, errW_some] <;> rfl) | (simp [*, errW_none, errW_some] <;> rfl), by first | exact Kd.R_nil _ _ _ _ _ | exact Kd.N_nil _ _ _ _ _ | exact Kd.V_nil _ _ _ _ _ | exact Kd.Q_nil _ _ _ _ _ | exact Kd.S_nil _ _ _ _ _, by exact sS, by exact bB, by exact kK⟩
  ·rw [if_neg c11] at H
   have c11b0 : hasK s3_0 a1 a2 = false := eq_false_of_ne_true c11
   have H' := Aside0.mk H
   clear H
   go_enter Try.func48, Try.ntmps48
   go_wp2_with (first | ((with_reducible refine gate_dst (N := 4) rfl ?_);refine box_event ?hg (N := 4) ?hd (cs := #[.slice A0_0 l0_0.length c0_0]) (t := 56) ?hr ?_;(case hd => rfl);(case hg => rfl);(case hr => first | (go_simp;done) | (go_simp;rfl));intro gb320 hg w14 hbox hb;have n0_ := Aside0.mk (IsS74.below (by repeat (first | (with_reducible first | exact HI3.out | apply IsS74.alloc | apply IsS74.drewN | apply IsS74.drew | apply IsS74.set_0 | apply IsS74.set_1) | exact HI3.out)) hb);have n1_ := Aside0.mk (KeepBut.trans (by exact kK) (KeepBut.of_below hb g none) (.inl rfl));have n2_ := Aside0.mk (below_step (by exact bB) hb);have n3_ := Aside0.mk (hbox);have n4_ := Aside0.mk ((by rw [hg];exact (keep_size (w := w) (g := g) (row := none) (by exact kK)) : w.heap.size ≤ gb320));have n5_ := Aside0.mk ((Nat.le_trans HW0.out (by rw [hg];exact (keep_size (w := w) (g := g) (row := none) (by exact kK)) : w.heap.size ≤ gb320) : w0.heap.size ≤ gb320));have n6_ := Aside0.mk ((by rw [hg];exact Nat.ne_of_lt (IsS74.lt (show IsS74 w0 _ g s3_0 s3_1 from by exact sS)) : g ≠ gb320));have n7_ := Aside0.mk ((by rw [hg];exact Nat.ne_of_gt (IsS74.lt (show IsS74 w0 _ g s3_0 s3_1 from by exact sS)) : gb320 ≠ g));clear HI3;clear HK;clear HB;have HI3 := n0_;have HK := n1_;have HB := n2_;have BK320 := n3_;have GW320 := n4_;have GE320 := n5_;have NB3_320 := n6_;have NB320_3 := n7_;clear n0_ n1_ n2_ n3_ n4_ n5_ n6_ n7_;clear hb hbox hg;have hnb16 := NB320_3.out;have hnc16 := NB3_320.out;have hcz17_0 : w14.cell? ⟨gb320, 0, none⟩ = some (.slice A0_0 l0_0.length c0_0) := (blk_cell BK320.out 0).trans rfl;have hfz17_0 := blk_frozen BK320.out 0) | (at_lookup;refine look_event rfl _ _ rfl rfl rfl (HI3.out) ck c11b0 ?_))
   go_loopg [27] k (fun kq v27 w' => ∃ (x27_1 : Int) (x4000_1 : Int) (x4001_1 : Int), v27 = .int .i64 x27_1 ∧ Aside0 (impl_net_burnAll.l0 kq a1 a2 (l0_0.length : Int) x27_1 x4000_1 x4001_1 l0_0 = some (r1, r2, r3, r4)) ∧ Aside0 (kq ≤ k) ∧ Aside0 (w'.heap[gb320]? = some (.cells #[(.slice A0_0 l0_0.length c0_0)] 56 (0, 0))) ∧ Aside0 (IsS74 w0 w' g x4000_1 x4001_1) ∧ Aside0 (KeepBut w w' g none) ∧ Aside0 (Below w0.heap.size w0 w'))
   case atStart => exact ⟨(0), (s3_0), (s3_1), (by first | rfl | (simp;done) | (simp [*];done)), H', ⟨Nat.le_refl _⟩, ⟨by exact kP BK320.out⟩, ⟨by exact sS⟩, ⟨by exact kK⟩, ⟨by exact bB⟩⟩
   case round =>
    clear H'
    try clear c1
    try clear p2
    try clear c4
    try clear c5
    try clear c5b0
    try clear c5b1
    try clear c7
    try clear c8
    try clear c11
    try clear c11b0
    try clear c11b1
    try clear c16
    try clear hcz13_0
    try clear hcz13_1
    try clear hcz15_0
    try clear hcz15_1
    try clear hcz17_0
    try clear hcz9_0
    try clear hfz13_0
    try clear hfz13_1
    try clear hfz15_0
    try clear hfz15_1
    try clear hfz17_0
    try clear hfz9_0
    obtain ⟨x27_1, x4000_1, x4001_1, rfl, HA, HK1, BK320, HI3, HK, HB⟩ := hrel
    cases gk with
    | zero => exact absurd HA.out (by simp [impl_net_burnAll.l0])
    | succ k1 =>
     have H := HA.out
     clear HA
     simp only [impl_net_burnAll.l0] at H
     by_cases c18 : x27_1 < (l0_0.length : Int)
     ·rw [if_pos c18] at H
      have c18b0 : decide (x27_1 < (l0_0.length : Int)) = true := decide_eq_true c18
      clear c18
      replace H := Option.bind_eq_some_iff.mp H
      obtain ⟨t322, A190, H⟩ := H
      replace H : ((impl_net_burnAll.f k1 l0_0 (wrap64 (a1 - 1)) (Go.bits .or .i64 a2 t322) x4000_1 x4001_1).bind fun bt323 => (if bt323.2.1 = true then ((some (([x27_1] : List Int) : List Int)).bind fun y329 => (if y329.length + bt323.1.length < 17592186044416 then (some ((y329 ++ bt323.1), true, bt323.2.2.1, bt323.2.2.2)) else (none))) else (impl_net_burnAll.l0 k1 a1 a2 (l0_0.length : Int) (wrap64 (x27_1 + 1)) bt323.2.2.1 bt323.2.2.2 l0_0))) = some (r1, r2, r3, r4) := H
      have A19 := Aside0.mk A190
      clear A190
      replace H := Option.bind_eq_some_iff.mp H
      obtain ⟨⟨t323, t326, t327, t328⟩, A200, H⟩ := H
      replace H : (if t326 = true then ((some (([x27_1] : List Int) : List Int)).bind fun y329 => (if y329.length + t323.length < 17592186044416 then (some ((y329 ++ t323), true, t327, t328)) else (none))) else (impl_net_burnAll.l0 k1 a1 a2 (l0_0.length : Int) (wrap64 (x27_1 + 1)) t327 t328 l0_0)) = some (r1, r2, r3, r4) := H
      have A20 := Aside0.mk A200
      clear A200
      by_cases c21 : t326 = true
      ·subst c21
       have H1 : ((some (([x27_1] : List Int) : List Int)).bind fun y329 => (if y329.length + t323.length < 17592186044416 then (some ((y329 ++ t323), true, t327, t328)) else (none))) = some (r1, r2, r3, r4) := by rw [if_pos rfl] at H;exact H
       clear H
       have H := H1
       clear H1
       obtain ⟨y329, hy329⟩ : ∃ y_ : List Int, y_ = (([x27_1] : List Int)) := ⟨_, rfl⟩
       replace H : (if y329.length + t323.length < 17592186044416 then (some ((y329 ++ t323), true, t327, t328)) else (none)) = some (r1, r2, r3, r4) := by first | (rw [hy329];with_reducible exact H) | (have H2_ := (Option.bind_some _ _).symm.trans H;rw [hy329];with_reducible exact H2_) | (have H2_ := (Option.bind_some _ _).symm.trans H;with_reducible exact H2_) | with_reducible exact H | (rw [hy329];exact H) | exact H
       have Ny329 := Aside0.mk hy329
       clear hy329
       by_cases c22 : y329.length + t323.length < 17592186044416
       ·rw [if_pos c22] at H
        have LMc22 := Aside0.mk c22
        clear c22
        obtain ⟨y332, hy332⟩ : ∃ y_ : List Int, y_ = (y329 ++ t323) := ⟨_, rfl⟩
        replace H : (some (y332, true, t327, t328)) = some (r1, r2, r3, r4) := by first | (rw [hy332];with_reducible exact H) | (have H2_ := (Option.bind_some _ _).symm.trans H;rw [hy332];with_reducible exact H2_) | (have H2_ := (Option.bind_some _ _).symm.trans H;with_reducible exact H2_) | with_reducible exact H | (rw [hy332];exact H) | exact H
        have Ny332 := Aside0.mk hy332
        clear hy332
        simp only [Option.some.injEq, Prod.mk.injEq] at H
        obtain ⟨rfl, rfl, rfl, rfl⟩ := H
        try go_wp2
        have n0_ := Aside0.mk (blk_drew BK320.out)
        have n1_ := Aside0.mk (IsS74.drew HI3.out)
        have n2_ := Aside0.mk (keep_drew HK.out)
        have n3_ := Aside0.mk (below_drew1 HB.out)
        clear BK320
        clear HI3
        clear HK
        clear HB
        have BK320 := n0_
        have HI3 := n1_
        have HK := n2_
        have HB := n3_
        clear n0_ n1_ n2_ n3_
        refine start_ (n := 17) (S := fun w' => w'.cell? ⟨gb320, 0, none⟩ = some (.slice A0_0 l0_0.length c0_0)) (ds := []) #[false,false,false,false,false,false,false,false,false,false,false,false,false,false,false,false,false] (by kernel_rfl) rfl rfl ((blk_cell BK320.out 0).trans rfl) (fun hHeld => ?_);refine with_tabW impl_net_burnAll.tab8 impl_net_burnAll.bits8 (fun HT_ HW_ => ?_)
        generalize wr.drew = w23 at BK320 HI3 HK HB hHeld ⊢
        refine pure_ (i := 1) (N := some 32) (v := ?_) (a' := ?_) #[false,true,false,false,false,false,false,false,false,false,false,false,false,false,false,false,false] rfl rfl (any_of HT_.out (by kernel_rfl)) (fun _ _ _ h => h) (Or.inl ⟨by rfl, ?_⟩) ?_ ?_
        rotate_left
        ·intro w'
         go_simp
         with_reducible rfl
        rotate_left
        ·simp only [Act.put, List.setIfInBounds_toArray, List.set_cons_zero, List.set_cons_succ, i64_w, i32_w]
         rfl
        refine pure_ (i := 2) (N := some 33) (v := ?_) (a' := ?_) #[false,true,true,false,false,false,false,false,false,false,false,false,false,false,false,false,false] rfl rfl (any_of HT_.out (by kernel_rfl)) (fun _ _ _ h => h) (Or.inl ⟨by rfl, ?_⟩) ?_ ?_
        rotate_left
        ·intro w'
         go_simp
         with_reducible rfl
        rotate_left
        ·simp only [Act.put, List.setIfInBounds_toArray, List.set_cons_zero, List.set_cons_succ, i64_w, i32_w]
         rfl
        refine pure_ (i := 3) (N := some 34) (v := ?_) (a' := ?_) #[false,true,true,true,false,false,false,false,false,false,false,false,false,false,false,false,false] rfl rfl (any_of HT_.out (by kernel_rfl)) (fun _ _ _ h => h) (Or.inl ⟨by rfl, ?_⟩) ?_ ?_
        rotate_left
        ·intro w'
         go_simp
         with_reducible rfl
        rotate_left
        ·simp only [Act.put, List.setIfInBounds_toArray, List.set_cons_zero, List.set_cons_succ, i64_w, i32_w]
         rfl
        refine pure_ (i := 5) (N := some 36) (v := ?_) (a' := ?_) #[false,true,true,true,false,true,false,false,false,false,false,false,false,false,false,false,false] rfl rfl (any_of HT_.out (by kernel_rfl)) (fun _ _ _ h => h) (Or.inl ⟨by rfl, ?_⟩) ?_ ?_
        rotate_left
        ·intro w'
         go_simp
         with_reducible rfl
        rotate_left
        ·simp only [Act.put, List.setIfInBounds_toArray, List.set_cons_zero, List.set_cons_succ, i64_w, i32_w]
         rfl
        refine pure_ (i := 6) (N := some 37) (v := ?_) (a' := ?_) #[false,true,true,true,false,true,true,false,false,false,false,false,false,false,false,false,false] rfl rfl (any_of HT_.out (by kernel_rfl)) (fun _ _ _ h => h) (Or.inl ⟨by rfl, ?_⟩) ?_ ?_
        rotate_left
        ·intro w'
         go_simp
         with_reducible rfl
        rotate_left
        ·simp only [Act.put, List.setIfInBounds_toArray, List.set_cons_zero, List.set_cons_succ, i64_w, i32_w]
         rfl
        refine pure_ (i := 7) (N := some 38) (v := ?_) (a' := ?_) #[false,true,true,true,false,true,true,true,false,false,false,false,false,false,false,false,false] rfl rfl (any_of HT_.out (by kernel_rfl)) (fun _ _ _ h => h) (Or.inl ⟨by rfl, ?_⟩) ?_ ?_
        rotate_left
        ·intro w'
         go_simp
         with_reducible rfl
        rotate_left
        ·simp only [Act.put, List.setIfInBounds_toArray, List.set_cons_zero, List.set_cons_succ, i64_w, i32_w]
         rfl
        refine pure_ (i := 10) (N := some 41) (v := ?_) (a' := ?_) #[false,true,true,true,false,true,true,true,false,false,true,false,false,false,false,false,false] rfl rfl (any_of HT_.out (by kernel_rfl)) (fun _ _ _ h => h) (Or.inl ⟨by rfl, ?_⟩) ?_ ?_
        rotate_left
        ·intro w'
         go_simp
         with_reducible rfl
        rotate_left
        ·simp only [Act.put, List.setIfInBounds_toArray, List.set_cons_zero, List.set_cons_succ, i64_w, i32_w]
         rfl
        refine take_ (i := 0) (N := some 31) (v := ?_) (a' := ?_) #[true,true,true,true,false,true,true,true,false,false,true,false,false,false,false,false,false] rfl rfl (take_ofW HT_.out HW_.out (by kernel_rfl)) (fun _ _ _ h => h) (Or.inl ⟨by rfl, ?_⟩) hHeld ?_ ?_
        rotate_left
        ·intro w' s0
         go_simp
         with_reducible rfl
        rotate_left
        ·simp only [Act.put, List.setIfInBounds_toArray, List.set_cons_zero, List.set_cons_succ, i64_w, i32_w]
         rfl
        refine take_ (i := 4) (N := some 35) (v := ?_) (a' := ?_) #[true,true,true,true,true,true,true,true,false,false,true,false,false,false,false,false,false] rfl rfl (take_ofW HT_.out HW_.out (by kernel_rfl)) (fun _ _ _ h => h) (Or.inl ⟨by rfl, ?_⟩) hHeld ?_ ?_
        rotate_left
        ·intro w' s0
         go_simp
         with_reducible rfl
        rotate_left
        ·simp only [Act.put, List.setIfInBounds_toArray, List.set_cons_zero, List.set_cons_succ, i64_w, i32_w]
         rfl
        refine one_ (i := 8) (N := some 39) #[true,true,true,true,true,true,true,true,true,false,true,false,false,false,false,false,false] rfl rfl (one_of HT_.out (by kernel_rfl)) (by decide) (fun K hK => ?_)
        refine goes_ Try.func79 (by kernel_rfl) rfl #[.agg #[.slice A0_0 l0_0.length c0_0], .int .i64 x27_1, .int .i64 (wrap64 (a1 - 1))] (by rfl) rfl rfl mM ?_
        with_reducible refine (impl_net_ball.calls k1 _ _ l0_0 x27_1 (wrap64 (a1 - 1)) t322 _ ?side1 ?side2 A19.out).mono ?_
        (case side1 => exact Kd.C_keep 0 HR0_0.out (by exact kK) hf0_0)
        (case side2 => exact HC0_0.out)
        rintro e w24 ⟨rfl, hb⟩
        refine ⟨_, rfl, ?_⟩
        have n0_ := Aside0.mk (blk_below (g := gb320) (o := .cells #[.slice A0_0 l0_0.length c0_0] 56 (0, 0)) (by exact kP BK320.out) hb)
        have n1_ := Aside0.mk (IsS74.below (by repeat (first | (with_reducible first | exact HI3.out | apply IsS74.alloc | apply IsS74.drewN | apply IsS74.drew | apply IsS74.set_0 | apply IsS74.set_1 | refine IsS74.far ?_ NB3_320.out _) | exact HI3.out)) hb)
        have n2_ := Aside0.mk (KeepBut.trans (by exact kK) (KeepBut.of_below hb g none) (.inl rfl))
        have n3_ := Aside0.mk (below_step (by exact bB) hb)
        clear BK320
        clear HI3
        clear HK
        clear HB
        have BK320 := n0_
        have HI3 := n1_
        have HK := n2_
        have HB := n3_
        clear n0_ n1_ n2_ n3_
        (try clear hb)
        (try clear hb2)
        (try clear hk)
        (try clear hi)
        refine hK.out _ _ ((blk_cell BK320.out 0).trans rfl) (fun hHeld => ?_)
        clear hK K
        refine norm_ (a' := ?_) ?_ ?_
        rotate_left
        ·show Act.put _ (some 39) _ = _
         simp only [Act.put, List.setIfInBounds_toArray, List.set_cons_zero, List.set_cons_succ, i64_w, i32_w]
         rfl
        refine pure_ (i := 9) (N := some 40) (v := ?_) (a' := ?_) #[true,true,true,true,true,true,true,true,true,true,true,false,false,false,false,false,false] rfl rfl (any_of HT_.out (by kernel_rfl)) (fun _ _ _ h => h) (Or.inl ⟨by rfl, ?_⟩) ?_ ?_
        rotate_left
        ·intro w'
         go_simp
         with_reducible rfl
        rotate_left
        ·simp only [Act.put, List.setIfInBounds_toArray, List.set_cons_zero, List.set_cons_succ, i64_w, i32_w]
         rfl
        refine one_ (i := 11) (N := some 42) #[true,true,true,true,true,true,true,true,true,true,true,true,false,false,false,false,false] rfl rfl (one_of HT_.out (by kernel_rfl)) (by decide) (fun K hK => ?_)
        refine goes_ Try.func48 (by kernel_rfl) rfl #[.agg #[.slice A0_0 l0_0.length c0_0], .int .i64 (wrap64 (a1 - 1)), .int .i64 (Go.bits .or .i64 a2 t322), .map (some g)] (by rfl) rfl rfl mM ?_
        with_reducible refine (ih k1 (by have := HK1.out;omega) _ _ l0_0 (wrap64 (a1 - 1)) (Go.bits .or .i64 a2 t322) g x4000_1 x4001_1 t323 true t327 t328 w0 _ ?side1 ?side2 ?side3 ?side4 ?side5 A20.out).mono ?_
        (case side1 => exact sS)
        (case side2 => exact bB)
        (case side3 => exact Kd.C_keep 0 HR0_0.out (by exact kK) hf0_0)
        (case side4 => exact HC0_0.out)
        (case side5 => exact hf0_0)
        rintro e w25 ⟨v324, rfl, ho0, hi, hb, hk⟩
        refine ⟨_, rfl, ?_⟩
        have n0_ := Aside0.mk (KeepBut.blk hk (g' := gb320) (o := .cells #[.slice A0_0 l0_0.length c0_0] 56 (0, 0)) (by exact kP BK320.out) NB320_3.out (by simp))
        have n1_ := Aside0.mk (Kd.R_lower ho0 (keep_size (w := w) (g := g) (row := none) (by exact kK)))
        have n2_ := Aside0.mk (KeepBut.trans (by exact kK) hk (.inl rfl))
        have n3_ := Aside0.mk (hb)
        have n4_ := Aside0.mk (hi)
        clear BK320
        clear HK
        clear HB
        clear HI3
        have BK320 := n0_
        have HO325 := n1_
        have HK := n2_
        have HB := n3_
        have HI3 := n4_
        clear n0_ n1_ n2_ n3_ n4_
        (try clear hb)
        (try clear hb2)
        (try clear hk)
        (try clear hi)
        (try clear ho0)
        refine hK.out _ _ ((blk_cell BK320.out 0).trans rfl) (fun hHeld => ?_)
        clear hK K
        refine norm_ (a' := ?_) ?_ ?_
        rotate_left
        ·show Act.put _ (some 42) _ = _
         simp only [Act.put, List.setIfInBounds_toArray, List.set_cons_zero, List.set_cons_succ, i64_w, i32_w]
         rfl
        refine pure_ (i := 12) (N := some 30) (v := ?_) (a' := ?_) #[true,true,true,true,true,true,true,true,true,true,true,true,true,false,false,false,false] rfl rfl (any_of HT_.out (by kernel_rfl)) (fun _ _ _ h => h) (Or.inl ⟨by rfl, ?_⟩) ?_ ?_
        rotate_left
        ·intro w'
         go_simp
         with_reducible rfl
        rotate_left
        ·simp only [Act.put, List.setIfInBounds_toArray, List.set_cons_zero, List.set_cons_succ, i64_w, i32_w]
         rfl
        refine pure_ (i := 13) (N := some 43) (v := ?_) (a' := ?_) #[true,true,true,true,true,true,true,true,true,true,true,true,true,true,false,false,false] rfl rfl (any_of HT_.out (by kernel_rfl)) (fun _ _ _ h => h) (Or.inl ⟨by rfl, ?_⟩) ?_ ?_
        rotate_left
        ·intro w'
         go_simp
         with_reducible rfl
        rotate_left
        ·simp only [Act.put, List.setIfInBounds_toArray, List.set_cons_zero, List.set_cons_succ, i64_w, i32_w]
         rfl
        refine pure_ (i := 14) (N := some 44) (v := ?_) (a' := ?_) #[true,true,true,true,true,true,true,true,true,true,true,true,true,true,true,false,false] rfl rfl (any_of HT_.out (by kernel_rfl)) (fun _ _ _ h => h) (Or.inl ⟨by rfl, ?_⟩) ?_ ?_
        rotate_left
        ·intro w'
         go_simp
         with_reducible rfl
        rotate_left
        ·simp only [Act.put, List.setIfInBounds_toArray, List.set_cons_zero, List.set_cons_succ, i64_w, i32_w]
         rfl
        refine pure_ (i := 15) (N := some 11) (v := ?_) (a' := ?_) #[true,true,true,true,true,true,true,true,true,true,true,true,true,true,true,true,false] rfl rfl (any_of HT_.out (by kernel_rfl)) (fun _ _ _ h => h) (Or.inl ⟨by rfl, ?_⟩) ?_ ?_
        rotate_left
        ·intro w'
         go_simp
         with_reducible rfl
        rotate_left
        ·simp only [Act.put, List.setIfInBounds_toArray, List.set_cons_zero, List.set_cons_succ, i64_w, i32_w]
         rfl
        refine pure_ (i := 16) (N := some 12) (v := ?_) (a' := ?_) #[true,true,true,true,true,true,true,true,true,true,true,true,true,true,true,true,true] rfl rfl (any_of HT_.out (by kernel_rfl)) (fun _ _ _ h => h) (Or.inl ⟨by rfl, ?_⟩) ?_ ?_
        rotate_left
        ·intro w'
         go_simp
         with_reducible rfl
        rotate_left
        ·simp only [Act.put, List.setIfInBounds_toArray, List.set_cons_zero, List.set_cons_succ, i64_w, i32_w]
         rfl
        refine done_ (done_of HT_.out (by kernel_rfl)) ?_
        try go_wp2_with (first | ((with_reducible refine gate_dst (N := 47) rfl ?_);refine Kd.R_lit (Kd.int .i64) _ 3 ?hg (N := 47) ?hd (xs := ([x27_1] : List Int)) (inner := [.int .i64 x27_1]) (ok := fun _ => True) (okp := fun _ => True) ?hr ?hp (fun _ hk => hk) trivial (Below.refl _ _) (Nat.le_refl _) (by simp) ?_;(case hd => rfl);(case hg => rfl);(case hr => first | (go_simp;done) | (go_simp;rfl));(case hp => exact (Reps.one (show Kd.M (Kd.int .i64) _ _ _ x27_1 [.int .i64 x27_1] from rfl) (Reps.none _ _)));intro v330 w26 ho27 hb hg_ hnew_;clear hg_ hnew_;(first | rw [← Ny329.out] at ho27 | (simp only [Int.reduceToNat] at ho27;rw [← Ny329.out] at ho27));have n0_ := Aside0.mk (Kd.R_elder' (by exact rP HO325.out) (Kd.R_base ho27) hb);have n1_ := Aside0.mk (Kd.R_lower (Kd.R_new' ho27 (Kd.R_lt (by exact rP HO325.out))) (keep_size (w := w) (g := g) (row := none) (by exact kK)));have n2_ := Aside0.mk (blk_below (g := gb320) (o := .cells #[.slice A0_0 l0_0.length c0_0] 56 (0, 0)) (by exact kP BK320.out) hb);have n3_ := Aside0.mk (IsS74.below (by repeat (first | (with_reducible first | exact HI3.out | apply IsS74.alloc | apply IsS74.drewN | apply IsS74.drew | apply IsS74.set_0 | apply IsS74.set_1 | refine IsS74.far ?_ NB3_320.out _) | exact HI3.out)) hb);have n4_ := Aside0.mk (KeepBut.trans (by exact kK) (KeepBut.of_below hb g none) (.inl rfl));have n5_ := Aside0.mk (below_step (by exact bB) hb);clear HO325;clear BK320;clear HI3;clear HK;clear HB;have HO325 := n0_;have HO331 := n1_;have BK320 := n2_;have HI3 := n3_;have HK := n4_;have HB := n5_;clear n0_ n1_ n2_ n3_ n4_ n5_;clear hb ho27;obtain ⟨Ao29, co29, eo29⟩ := Kd.R_slice HO325.out;subst eo29) | ((with_reducible refine gate_builtin (b := .append) (xs := #[.tmp 47, .tmp 48]) rfl ?_);at_builtin;refine Kd.R_append_rows (Kd.int .i64) w.heap.size rfl (.tmp 47) (.tmp 48) 25 3 (.int .i64 0) 8 rfl Try.underlying25 info3 rfl (by decide) (by omega) v330 y329 t323 _ _ _ (fun k_ => some k_ ≠ (.slice Ao29 t323.length co29 : Value).ownBlock) (fun _ => False) rfl rfl ?aO ?aR (fun _ _ h => h) (fun _ h => h.elim) ?aF (Below.refl _ _) ?aS ?aL ?_;(case aR => exact cP (Kd.R_reads' HO325.out).2.2);(case aF => exact (fun k_ hk => Kd.fresh' (Kd.R_lt (by exact rP HO325.out)) k_ hk));(case aO => exact (by refine rP ?_;exact Kd.R_mono HO331.out (fun _ hk => hk.2)));(case aS => exact (keep_size (w := w) (g := g) (row := none) (by exact kK)));(case aL => have := LMc22.out;omega);intro v333 w28 ho hb hg hat;rw [← Ny332.out] at ho;have n0_ := Aside0.mk (blk_grown (g := gb320) (o := .cells #[.slice A0_0 l0_0.length c0_0] 56 (0, 0)) (by exact kP BK320.out) hg (Kd.R_ne HO331.out BK320.out (by decide)));have n1_ := Aside0.mk (IsS74.grown (by exact sS) hg (IsS74.own_ne HI3.out HO331.out (by decide)));have n2_ := Aside0.mk (Kd.R_after (ok := (fun _ => True)) (by exact rP HO325.out) hg hat);have n3_ := Aside0.mk (below_weaken (by exact bB) HL.out hb);have n4_ := Aside0.mk (KeepBut.trans (by exact kK) (KeepBut.of_grown hg g) (Kd.R_base2 HO331.out));have n5_ := Aside0.mk (ho);clear BK320;clear HI3;clear HO325;clear HB;clear HK;clear HO331;have BK320 := n0_;have HI3 := n1_;have HO325 := n2_;have HB := n3_;have HK := n4_;have HO334 := n5_;clear n0_ n1_ n2_ n3_ n4_ n5_;clear ho hb hg hat))
        go_ret2
        exact ⟨_, by first | rfl | (simp [errW_none, errW_some] <;> rfl) | (simp [*, errW_none, errW_some] <;> rfl), by refine rP ?_;exact Kd.R_mono HO334.out (fun _ hk => trivial), by exact sS, by exact bB, by exact kK⟩
       ·rw [if_neg c22] at H
        exact absurd H (by simp)
      ·replace c21 := Bool.eq_false_iff.mpr c21
       subst c21
       have H1 : (impl_net_burnAll.l0 k1 a1 a2 (l0_0.length : Int) (wrap64 (x27_1 + 1)) t327 t328 l0_0) = some (r1, r2, r3, r4) := by rw [if_neg (show ¬ (false = true) by decide)] at H;exact H
       clear H
       have H := H1
       clear H1
       have H' := Aside0.mk H
       clear H
       try go_wp2
       have n0_ := Aside0.mk (blk_drew BK320.out)
       have n1_ := Aside0.mk (IsS74.drew HI3.out)
       have n2_ := Aside0.mk (keep_drew HK.out)
       have n3_ := Aside0.mk (below_drew1 HB.out)
       clear BK320
       clear HI3
       clear HK
       clear HB
       have BK320 := n0_
       have HI3 := n1_
       have HK := n2_
       have HB := n3_
       clear n0_ n1_ n2_ n3_
       refine start_ (n := 17) (S := fun w' => w'.cell? ⟨gb320, 0, none⟩ = some (.slice A0_0 l0_0.length c0_0)) (ds := []) #[false,false,false,false,false,false,false,false,false,false,false,false,false,false,false,false,false] (by kernel_rfl) rfl rfl ((blk_cell BK320.out 0).trans rfl) (fun hHeld => ?_);refine with_tabW impl_net_burnAll.tab8 impl_net_burnAll.bits8 (fun HT_ HW_ => ?_)
       generalize wr.drew = w30 at BK320 HI3 HK HB hHeld ⊢
       refine pure_ (i := 1) (N := some 32) (v := ?_) (a' := ?_) #[false,true,false,false,false,false,false,false,false,false,false,false,false,false,false,false,false] rfl rfl (any_of HT_.out (by kernel_rfl)) (fun _ _ _ h => h) (Or.inl ⟨by rfl, ?_⟩) ?_ ?_
       rotate_left
       ·intro w'
        go_simp
        with_reducible rfl
       rotate_left
       ·simp only [Act.put, List.setIfInBounds_toArray, List.set_cons_zero, List.set_cons_succ, i64_w, i32_w]
        rfl
       refine pure_ (i := 2) (N := some 33) (v := ?_) (a' := ?_) #[false,true,true,false,false,false,false,false,false,false,false,false,false,false,false,false,false] rfl rfl (any_of HT_.out (by kernel_rfl)) (fun _ _ _ h => h) (Or.inl ⟨by rfl, ?_⟩) ?_ ?_
       rotate_left
       ·intro w'
        go_simp
        with_reducible rfl
       rotate_left
       ·simp only [Act.put, List.setIfInBounds_toArray, List.set_cons_zero, List.set_cons_succ, i64_w, i32_w]
        rfl
       refine pure_ (i := 3) (N := some 34) (v := ?_) (a' := ?_) #[false,true,true,true,false,false,false,false,false,false,false,false,false,false,false,false,false] rfl rfl (any_of HT_.out (by kernel_rfl)) (fun _ _ _ h => h) (Or.inl ⟨by rfl, ?_⟩) ?_ ?_
       rotate_left
       ·intro w'
        go_simp
        with_reducible rfl
       rotate_left
       ·simp only [Act.put, List.setIfInBounds_toArray, List.set_cons_zero, List.set_cons_succ, i64_w, i32_w]
        rfl
       refine pure_ (i := 5) (N := some 36) (v := ?_) (a' := ?_) #[false,true,true,true,false,true,false,false,false,false,false,false,false,false,false,false,false] rfl rfl (any_of HT_.out (by kernel_rfl)) (fun _ _ _ h => h) (Or.inl ⟨by rfl, ?_⟩) ?_ ?_
       rotate_left
       ·intro w'
        go_simp
        with_reducible rfl
       rotate_left
       ·simp only [Act.put, List.setIfInBounds_toArray, List.set_cons_zero, List.set_cons_succ, i64_w, i32_w]
        rfl
       refine pure_ (i := 6) (N := some 37) (v := ?_) (a' := ?_) #[false,true,true,true,false,true,true,false,false,false,false,false,false,false,false,false,false] rfl rfl (any_of HT_.out (by kernel_rfl)) (fun _ _ _ h => h) (Or.inl ⟨by rfl, ?_⟩) ?_ ?_
       rotate_left
       ·intro w'
        go_simp
        with_reducible rfl
       rotate_left
       ·simp only [Act.put, List.setIfInBounds_toArray, List.set_cons_zero, List.set_cons_succ, i64_w, i32_w]
        rfl
       refine pure_ (i := 7) (N := some 38) (v := ?_) (a' := ?_) #[false,true,true,true,false,true,true,true,false,false,false,false,false,false,false,false,false] rfl rfl (any_of HT_.out (by kernel_rfl)) (fun _ _ _ h => h) (Or.inl ⟨by rfl, ?_⟩) ?_ ?_
       rotate_left
       ·intro w'
        go_simp
        with_reducible rfl
       rotate_left
       ·simp only [Act.put, List.setIfInBounds_toArray, List.set_cons_zero, List.set_cons_succ, i64_w, i32_w]
        rfl
       refine pure_ (i := 10) (N := some 41) (v := ?_) (a' := ?_) #[false,true,true,true,false,true,true,true,false,false,true,false,false,false,false,false,false] rfl rfl (any_of HT_.out (by kernel_rfl)) (fun _ _ _ h => h) (Or.inl ⟨by rfl, ?_⟩) ?_ ?_
       rotate_left
       ·intro w'
        go_simp
        with_reducible rfl
       rotate_left
       ·simp only [Act.put, List.setIfInBounds_toArray, List.set_cons_zero, List.set_cons_succ, i64_w, i32_w]
        rfl
       refine take_ (i := 0) (N := some 31) (v := ?_) (a' := ?_) #[true,true,true,true,false,true,true,true,false,false,true,false,false,false,false,false,false] rfl rfl (take_ofW HT_.out HW_.out (by kernel_rfl)) (fun _ _ _ h => h) (Or.inl ⟨by rfl, ?_⟩) hHeld ?_ ?_
       rotate_left
       ·intro w' s0
        go_simp
        with_reducible rfl
       rotate_left
       ·simp only [Act.put, List.setIfInBounds_toArray, List.set_cons_zero, List.set_cons_succ, i64_w, i32_w]
        rfl
       refine take_ (i := 4) (N := some 35) (v := ?_) (a' := ?_) #[true,true,true,true,true,true,true,true,false,false,true,false,false,false,false,false,false] rfl rfl (take_ofW HT_.out HW_.out (by kernel_rfl)) (fun _ _ _ h => h) (Or.inl ⟨by rfl, ?_⟩) hHeld ?_ ?_
       rotate_left
       ·intro w' s0
        go_simp
        with_reducible rfl
       rotate_left
       ·simp only [Act.put, List.setIfInBounds_toArray, List.set_cons_zero, List.set_cons_succ, i64_w, i32_w]
        rfl
       refine one_ (i := 8) (N := some 39) #[true,true,true,true,true,true,true,true,true,false,true,false,false,false,false,false,false] rfl rfl (one_of HT_.out (by kernel_rfl)) (by decide) (fun K hK => ?_)
       refine goes_ Try.func79 (by kernel_rfl) rfl #[.agg #[.slice A0_0 l0_0.length c0_0], .int .i64 x27_1, .int .i64 (wrap64 (a1 - 1))] (by rfl) rfl rfl mM ?_
       with_reducible refine (impl_net_ball.calls k1 _ _ l0_0 x27_1 (wrap64 (a1 - 1)) t322 _ ?side1 ?side2 A19.out).mono ?_
       (case side1 => exact Kd.C_keep 0 HR0_0.out (by exact kK) hf0_0)
       (case side2 => exact HC0_0.out)
       rintro e w31 ⟨rfl, hb⟩
       refine ⟨_, rfl, ?_⟩
       have n0_ := Aside0.mk (blk_below (g := gb320) (o := .cells #[.slice A0_0 l0_0.length c0_0] 56 (0, 0)) (by exact kP BK320.out) hb)
       have n1_ := Aside0.mk (IsS74.below (by repeat (first | (with_reducible first | exact HI3.out | apply IsS74.alloc | apply IsS74.drewN | apply IsS74.drew | apply IsS74.set_0 | apply IsS74.set_1 | refine IsS74.far ?_ NB3_320.out _) | exact HI3.out)) hb)
       have n2_ := Aside0.mk (KeepBut.trans (by exact kK) (KeepBut.of_below hb g none) (.inl rfl))
       have n3_ := Aside0.mk (below_step (by exact bB) hb)
       clear BK320
       clear HI3
       clear HK
       clear HB
       have BK320 := n0_
       have HI3 := n1_
       have HK := n2_
       have HB := n3_
       clear n0_ n1_ n2_ n3_
       (try clear hb)
       (try clear hb2)
       (try clear hk)
       (try clear hi)
       refine hK.out _ _ ((blk_cell BK320.out 0).trans rfl) (fun hHeld => ?_)
       clear hK K
       refine norm_ (a' := ?_) ?_ ?_
       rotate_left
       ·show Act.put _ (some 39) _ = _
        simp only [Act.put, List.setIfInBounds_toArray, List.set_cons_zero, List.set_cons_succ, i64_w, i32_w]
        rfl
       refine pure_ (i := 9) (N := some 40) (v := ?_) (a' := ?_) #[true,true,true,true,true,true,true,true,true,true,true,false,false,false,false,false,false] rfl rfl (any_of HT_.out (by kernel_rfl)) (fun _ _ _ h => h) (Or.inl ⟨by rfl, ?_⟩) ?_ ?_
       rotate_left
       ·intro w'
        go_simp
        with_reducible rfl
       rotate_left
       ·simp only [Act.put, List.setIfInBounds_toArray, List.set_cons_zero, List.set_cons_succ, i64_w, i32_w]
        rfl
       refine one_ (i := 11) (N := some 42) #[true,true,true,true,true,true,true,true,true,true,true,true,false,false,false,false,false] rfl rfl (one_of HT_.out (by kernel_rfl)) (by decide) (fun K hK => ?_)
       refine goes_ Try.func48 (by kernel_rfl) rfl #[.agg #[.slice A0_0 l0_0.length c0_0], .int .i64 (wrap64 (a1 - 1)), .int .i64 (Go.bits .or .i64 a2 t322), .map (some g)] (by rfl) rfl rfl mM ?_
       with_reducible refine (ih k1 (by have := HK1.out;omega) _ _ l0_0 (wrap64 (a1 - 1)) (Go.bits .or .i64 a2 t322) g x4000_1 x4001_1 t323 false t327 t328 w0 _ ?side1 ?side2 ?side3 ?side4 ?side5 A20.out).mono ?_
       (case side1 => exact sS)
       (case side2 => exact bB)
       (case side3 => exact Kd.C_keep 0 HR0_0.out (by exact kK) hf0_0)
       (case side4 => exact HC0_0.out)
       (case side5 => exact hf0_0)
       rintro e w32 ⟨v324, rfl, ho0, hi, hb, hk⟩
       refine ⟨_, rfl, ?_⟩
       have n0_ := Aside0.mk (KeepBut.blk hk (g' := gb320) (o := .cells #[.slice A0_0 l0_0.length c0_0] 56 (0, 0)) (by exact kP BK320.out) NB320_3.out (by simp))
       have n1_ := Aside0.mk (Kd.R_lower ho0 (keep_size (w := w) (g := g) (row := none) (by exact kK)))
       have n2_ := Aside0.mk (KeepBut.trans (by exact kK) hk (.inl rfl))
       have n3_ := Aside0.mk (hb)
       have n4_ := Aside0.mk (hi)
       clear BK320
       clear HK
       clear HB
       clear HI3
       have BK320 := n0_
       have HO325 := n1_
       have HK := n2_
       have HB := n3_
       have HI3 := n4_
       clear n0_ n1_ n2_ n3_ n4_
       (try clear hb)
       (try clear hb2)
       (try clear hk)
       (try clear hi)
       (try clear ho0)
       refine hK.out _ _ ((blk_cell BK320.out 0).trans rfl) (fun hHeld => ?_)
       clear hK K
       refine norm_ (a' := ?_) ?_ ?_
       rotate_left
       ·show Act.put _ (some 42) _ = _
        simp only [Act.put, List.setIfInBounds_toArray, List.set_cons_zero, List.set_cons_succ, i64_w, i32_w]
        rfl
       refine pure_ (i := 12) (N := some 30) (v := ?_) (a' := ?_) #[true,true,true,true,true,true,true,true,true,true,true,true,true,false,false,false,false] rfl rfl (any_of HT_.out (by kernel_rfl)) (fun _ _ _ h => h) (Or.inl ⟨by rfl, ?_⟩) ?_ ?_
       rotate_left
       ·intro w'
        go_simp
        with_reducible rfl
       rotate_left
       ·simp only [Act.put, List.setIfInBounds_toArray, List.set_cons_zero, List.set_cons_succ, i64_w, i32_w]
        rfl
       refine pure_ (i := 13) (N := some 43) (v := ?_) (a' := ?_) #[true,true,true,true,true,true,true,true,true,true,true,true,true,true,false,false,false] rfl rfl (any_of HT_.out (by kernel_rfl)) (fun _ _ _ h => h) (Or.inl ⟨by rfl, ?_⟩) ?_ ?_
       rotate_left
       ·intro w'
        go_simp
        with_reducible rfl
       rotate_left
       ·simp only [Act.put, List.setIfInBounds_toArray, List.set_cons_zero, List.set_cons_succ, i64_w, i32_w]
        rfl
       refine pure_ (i := 14) (N := some 44) (v := ?_) (a' := ?_) #[true,true,true,true,true,true,true,true,true,true,true,true,true,true,true,false,false] rfl rfl (any_of HT_.out (by kernel_rfl)) (fun _ _ _ h => h) (Or.inl ⟨by rfl, ?_⟩) ?_ ?_
       rotate_left
       ·intro w'
        go_simp
        with_reducible rfl
       rotate_left
       ·simp only [Act.put, List.setIfInBounds_toArray, List.set_cons_zero, List.set_cons_succ, i64_w, i32_w]
        rfl
       refine pure_ (i := 15) (N := some 11) (v := ?_) (a' := ?_) #[true,true,true,true,true,true,true,true,true,true,true,true,true,true,true,true,false] rfl rfl (any_of HT_.out (by kernel_rfl)) (fun _ _ _ h => h) (Or.inl ⟨by rfl, ?_⟩) ?_ ?_
       rotate_left
       ·intro w'
        go_simp
        with_reducible rfl
       rotate_left
       ·simp only [Act.put, List.setIfInBounds_toArray, List.set_cons_zero, List.set_cons_succ, i64_w, i32_w]
        rfl
       refine pure_ (i := 16) (N := some 12) (v := ?_) (a' := ?_) #[true,true,true,true,true,true,true,true,true,true,true,true,true,true,true,true,true] rfl rfl (any_of HT_.out (by kernel_rfl)) (fun _ _ _ h => h) (Or.inl ⟨by rfl, ?_⟩) ?_ ?_
       rotate_left
       ·intro w'
        go_simp
        with_reducible rfl
       rotate_left
       ·simp only [Act.put, List.setIfInBounds_toArray, List.set_cons_zero, List.set_cons_succ, i64_w, i32_w]
        rfl
       refine done_ (done_of HT_.out (by kernel_rfl)) ?_
       try go_wp2
       go_roundg k1
       case measure => have := HK1.out;omega
       case rel => exact ⟨(wrap64 (x27_1 + 1)), (t327), (t328), (by first | rfl | (simp;done) | (simp [*];done)), H', ⟨by have := HK1.out;omega⟩, ⟨by exact kP BK320.out⟩, ⟨by exact sS⟩, ⟨by exact kK⟩, ⟨by exact bB⟩⟩
     ·rw [if_neg c18] at H
      have c18b0 : decide (x27_1 < (l0_0.length : Int)) = false := decide_eq_false c18
      clear c18
      by_cases ck2 : kOk a1 a2 = true
      case neg => rw [if_neg ck2] at H;exact absurd H (by simp)
      rw [if_pos ck2] at H
      by_cases cf : x4001_1 < 4611686018427387904
      case neg => rw [if_neg cf] at H;exact absurd H (by simp)
      rw [if_pos cf] at H
      simp only [Option.some.injEq, Prod.mk.injEq] at H
      obtain ⟨rfl, rfl, rfl, rfl⟩ := H
      go_wp2_with (first | (at_mapUpdate;refine put_event rfl _ _ _ rfl rfl rfl rfl HI3.out ck2 cf ?_;intro wp_ hi_ hg_;have n0_ := Aside0.mk hi_;have n1_ := Aside0.mk (keep_put HK.out hg_);have n2_ := Aside0.mk (below_put HB.out HI3.out.ge hg_);clear HI3;clear HK;clear HB;have HI3 := n0_;have HK := n1_;have HB := n2_;clear n0_ n1_ n2_;clear hi_ hg_))
      go_ret2
      exact ⟨_, by first | rfl | (simp [errW_none, errW_some] <;> rfl) | (simp [*, errW_none, errW_some] <;> rfl), by first | exact Kd.R_nil _ _ _ _ _ | exact Kd.N_nil _ _ _ _ _ | exact Kd.V_nil _ _ _ _ _ | exact Kd.Q_nil _ _ _ _ _ | exact Kd.S_nil _ _ _ _ _, by exact sS, by exact bB, by exact kK⟩




end Go.Proofs.Ytaddgielnfhhpaa.QBurningNumber
