import Derived.Test.YtmokkhfmbenleaaQSpreading0
import Derived.Test.YtmokkhfmbenleaaQSpreading1
import Derived.Test.YtmokkhfmbenleaaQSpreading2
import Derived.Test.YtmokkhfmbenleaaQSpreading4
import Derived.Test.YtmokkhfmbenleaaQSpreading6
namespace Go.Proofs.Ytmokkhfmbenleaa.QSpreading
open Go.RowKit Go.Proofs.YtmokkhfmbenleaaW.PrintWords Go.Proofs.YtmokkhfmbenleaaW.PrintLast Go.Proofs.YtmokkhfmbenleaaW.PrintMore
attribute [local go_sem] max2_int min2_int max_two min_two max_three min_three max_four min_four   -- for this text's walks alone
set_option linter.unusedVariables false
set_option linter.unusedSimpArgs false
/-! ### spec_l1Cur_bigGraph: function 94 -/
def spec_l1Cur_bigGraph.f (k : Nat) (s0_0 : List Int) (s0_1 : Int) (s0_2 : Int) : Option (Int × (List (S119)) × Int × Int) := (spec_l1Cur_someGraph.f k s0_0 s0_1 s0_2 8).bind fun bt568 => (some (bt568.1, bt568.2.1, bt568.2.2.1, bt568.2.2.2))
theorem spec_l1Cur_bigGraph.mono : ∀ a0 a1 a2 k, LeO (spec_l1Cur_bigGraph.f k a0 a1 a2) (spec_l1Cur_bigGraph.f (k + 1) a0 a1 a2) := by
 intro a0 a1 a2 k
 unfold spec_l1Cur_bigGraph.f
 repeat' first
   | (with_reducible exact spec_l1Cur_someGraph.mono _ _ _ _ _)
   | (with_reducible exact LeO.refl _)
   | (with_reducible exact LeO.none _)
   | (with_reducible refine LeO.ite ?_ ?_)
   | (with_reducible refine LeO.bind ?_ (fun _ => ?_))
   | exact LeO.none _
   | refine LeO.ite ?_ ?_
   | refine LeO.bind ?_ (fun _ => ?_)
set_option maxHeartbeats 8000000 in
set_option maxRecDepth 100000 in
theorem spec_l1Cur_bigGraph.calls (k : Nat) (g : Nat) (s0_0 : List Int) (s0_1 : Int) (s0_2 : Int) (r1 : Int) (r2 : List (S119)) (r3 : Int) (r4 : Int) (w0 w : World) (hI : IsS91 w0 w g s0_0 s0_1 s0_2) (hB : Below w0.heap.size w0 w) (h : spec_l1Cur_bigGraph.f k s0_0 s0_1 s0_2 = some (r1, r2, r3, r4)) :
  Calls Try.prog 94 #[.pointer (some ⟨g, 0, none⟩)] w fun e w' => ∃ v1_ : Value, e = .returned (.agg #[.int .i64 r1, v1_]) ∧ Kd.R k119 119 w' w.heap.size (fun _ => True) v1_ r2 ∧ IsS91 w0 w' g s0_0 r3 r4 ∧ Below w0.heap.size w0 w' ∧ KeepBut w w' g none := by
 have hu31 := Try.underlying31
 have HI0 := Aside0.mk hI
 have HK := aM (KeepBut.refl w g none)
 have HL := Aside0.mk hB.size
 clear hI
 have HW0 := Aside0.mk hB.size
 have HB := Aside0.mk hB
 clear hB
 have H : ((spec_l1Cur_someGraph.f k s0_0 s0_1 s0_2 8).bind fun bt568 => (some (bt568.1, bt568.2.1, bt568.2.2.1, bt568.2.2.2))) = some (r1, r2, r3, r4) := h
 clear h
 replace H := Option.bind_eq_some_iff.mp H
 obtain ⟨⟨t568, t569, t572, t573⟩, A20, H⟩ := H
 replace H : (some (t568, t569, t572, t573)) = some (r1, r2, r3, r4) := H
 have A2 := Aside0.mk A20
 clear A20
 simp only [Option.some.injEq, Prod.mk.injEq] at H
 obtain ⟨rfl, rfl, rfl, rfl⟩ := H
 go_enter Try.func94, Try.ntmps94
 go_wp2_with (first | ((with_reducible refine gate_dst (N := 2) rfl ?_);refine box_event ?hg (N := 2) ?hd (cs := #[.int .i64 0, .slice none 0 0]) (t := 31) ?hr ?_;(case hd => rfl);(case hg => rfl);(case hr => first | (go_simp;done) | (go_simp;rfl));intro gb567 hg w3 hbox hb;have n0_ := aM (IsS91.below (by repeat (first | (with_reducible first | exact HI0.out | apply IsS91.alloc | apply IsS91.drewN | apply IsS91.drew | apply IsS91.set_1 | apply IsS91.set_2) | exact HI0.out)) hb);have n1_ := aM (KeepBut.trans (by exact kK) (KeepBut.of_below hb g none) (.inl rfl));have n2_ := aM (below_step (by exact bB) hb);have n3_ := aM (hbox);have n4_ := aM ((by rw [hg];exact (keep_size (w := w) (g := g) (row := none) (by exact kK)) : w.heap.size ≤ gb567));have n5_ := aM ((Nat.le_trans HW0.out (by rw [hg];exact (keep_size (w := w) (g := g) (row := none) (by exact kK)) : w.heap.size ≤ gb567) : w0.heap.size ≤ gb567));have n6_ := aM ((by rw [hg];exact Nat.ne_of_lt (IsS91.lt (show IsS91 w0 _ g s0_0 s0_1 s0_2 from by exact sS)) : g ≠ gb567));have n7_ := aM ((by rw [hg];exact Nat.ne_of_gt (IsS91.lt (show IsS91 w0 _ g s0_0 s0_1 s0_2 from by exact sS)) : gb567 ≠ g));clear HI0;clear HK;clear HB;have HI0 := n0_;have HK := n1_;have HB := n2_;have BK567 := n3_;have GW567 := n4_;have GE567 := n5_;have NB0_567 := n6_;have NB567_0 := n7_;clear n0_ n1_ n2_ n3_ n4_ n5_ n6_ n7_;clear hb hbox hg) | ((with_reducible refine gate_callee (f := 79) rfl ?_);refine goesL_ (some 4) rfl rfl Try.func79 (by kernel_rfl) rfl #[.pointer (some ⟨g, 0, none⟩), .int .i64 8] rfl mM ?_;(with_reducible refine (spec_l1Cur_someGraph.calls k g s0_0 s0_1 s0_2 8 t568 t569 t572 t573 w0 _ ?side1 ?side2 A2.out).mono ?_);(case side1 => exact sS);(case side2 => exact bB);rintro e w4 ⟨v570, rfl, ho0, hi, hb, hk⟩;refine ⟨_, rfl, ?_⟩;have n0_ := aM (KeepBut.blk hk (g' := gb567) (o := .cells #[.int .i64 0, .slice none 0 0] 31 (0, 0)) (by exact kP BK567.out) NB567_0.out (by simp));have n1_ := aM (Kd.R_lower ho0 (keep_size (w := w) (g := g) (row := none) (by exact kK)));have n2_ := aM (KeepBut.trans (by exact kK) hk (.inl rfl));have n3_ := aM (hb);have n4_ := aM (hi);clear BK567;clear HK;clear HB;clear HI0;have BK567 := n0_;have HO571 := n1_;have HK := n2_;have HB := n3_;have HI0 := n4_;clear n0_ n1_ n2_ n3_ n4_;(try clear hb);(try clear hb2);(try clear hk);(try clear hi);(try clear ho0);have hnb5 := NB567_0.out;have hnc5 := NB0_567.out;have hcz6_0 := bC0 BK567.out;have hcz6_1 := bC1 BK567.out;have hfz6_0 := blk_frozen BK567.out 0;have hfz6_1 := blk_frozen BK567.out 1;obtain ⟨Ao7, co7, eo7⟩ := Kd.R_slice HO571.out;subst eo7))
 refine bodyPost_ret (results_cell_row rfl _ _ gb567 31 #[.int .i64 t568, .slice Ao7 t569.length co7] (0, 0) _ rfl (by refine kP ?_;refine blk_put (cs := #[.int .i64 t568, .slice none 0 0]) ?_ 1 _ rfl;refine kP ?_;refine blk_put (cs := #[.int .i64 0, .slice none 0 0]) ?_ 0 _ rfl;exact kP BK567.out) Try.underlying31 rfl (by kernel_rfl)) rfl ?_
 exact ⟨_, by first | rfl | (simp [errW_none, errW_some] <;> rfl) | (simp [*, errW_none, errW_some] <;> rfl), by refine rP ?_;exact Kd.R_mono (Kd.R_far (p := ⟨gb567, 1, none⟩) (Kd.R_far (p := ⟨gb567, 0, none⟩) (Kd.R_types HO571.out BK567.out (by decide)) (fun _ hk => hk.2) (.int .i64 t568)) (fun _ hk => hk.2) (.slice Ao7 t569.length co7)) (fun _ hk => trivial), by exact sS, by exact bB, by exact kK⟩


/-! ### spec_l2Bits: function 108 -/
def spec_l2Bits.l0 : Nat → Int → Int → List Int → Int → Option (List Int)
 | 0, _, _, _, _ => none
 | k + 1, x0, x1, x5, x6 => if x6 < x0 then (if 0 ≤ x6 then (if (Go.bits .and .i64 (shr .i64 x1 x6) 1) = 1 then (if x5.length < 17592186044416 then (spec_l2Bits.l0 k x0 x1 (x5 ++ [x6]) (wrap64 (x6 + 1))) else (none)) else (spec_l2Bits.l0 k x0 x1 x5 (wrap64 (x6 + 1)))) else (none)) else (some x5)
def spec_l2Bits.f (k : Nat) (a0 : Int) (a1 : Int) : Option (List Int) := spec_l2Bits.l0 k a0 a1 (([] : List Int)) 0
theorem spec_l2Bits.mono_l : ∀ k, (∀ y0 y1 y2 y3, LeO (spec_l2Bits.l0 k y0 y1 y2 y3) (spec_l2Bits.l0 (k + 1) y0 y1 y2 y3))
 | 0 => fun _ _ _ _ r h => by simp [spec_l2Bits.l0] at h
 | k + 1 => by
  have ih0 := spec_l2Bits.mono_l k
  ·intro y0 y1 y2 y3
   unfold spec_l2Bits.l0
   repeat' first
   | (with_reducible exact ih0 _ _ _ _)
   | (with_reducible exact LeO.refl _)
   | (with_reducible exact LeO.none _)
   | (with_reducible refine LeO.ite ?_ ?_)
   | (with_reducible refine LeO.bind ?_ (fun _ => ?_))
   | exact LeO.none _
   | refine LeO.ite ?_ ?_
   | refine LeO.bind ?_ (fun _ => ?_)
theorem spec_l2Bits.mono : ∀ a0 a1 k, LeO (spec_l2Bits.f k a0 a1) (spec_l2Bits.f (k + 1) a0 a1) := by
 intro a0 a1 k
 have ih0 := spec_l2Bits.mono_l k
 unfold spec_l2Bits.f
 repeat' first
   | (with_reducible exact ih0 _ _ _ _)
   | (with_reducible exact LeO.refl _)
   | (with_reducible exact LeO.none _)
   | (with_reducible refine LeO.ite ?_ ?_)
   | (with_reducible refine LeO.bind ?_ (fun _ => ?_))
   | exact LeO.none _
   | refine LeO.ite ?_ ?_
   | refine LeO.bind ?_ (fun _ => ?_)
set_option maxHeartbeats 8000000 in
set_option maxRecDepth 100000 in
theorem spec_l2Bits.calls (k : Nat) (a0 : Int) (a1 : Int) (r : List Int) (w : World) (h : spec_l2Bits.f k a0 a1 = some r) :
  Calls Try.prog 108 #[.int .i64 a0, .int .i64 a1] w fun e w' => ∃ v0_ : Value, e = .returned (v0_) ∧ Kd.R (Kd.int .i64) 3 w' w.heap.size (fun _ => True) v0_ r ∧ Below w.heap.size w w' := by
 have HB := aM (Below.refl w.heap.size w)
 have H : (spec_l2Bits.l0 k a0 a1 (([] : List Int)) 0) = some r := h
 clear h
 obtain ⟨y574, hy574⟩ : ∃ y_ : List Int, y_ = (([] : List Int)) := ⟨_, rfl⟩
 replace H : (spec_l2Bits.l0 k a0 a1 y574 0) = some r := by first | (rw [hy574];with_reducible exact H) | (have H2_ := (Option.bind_some _ _).symm.trans H;rw [hy574];with_reducible exact H2_) | (have H2_ := (Option.bind_some _ _).symm.trans H;with_reducible exact H2_) | with_reducible exact H | (rw [hy574];exact H) | exact H
 have Ny574 := Aside0.mk hy574
 clear hy574
 have H' := Aside0.mk H
 clear H
 go_enter Try.func108, Try.ntmps108
 go_wp2_with (first | ((with_reducible refine gate_dst (N := 7) rfl ?_);refine Kd.R_lit (Kd.int .i64) _ 3 ?hg (N := 7) ?hd (xs := ([] : List Int)) (inner := []) (ok := fun _ => True) (okp := fun _ => True) ?hr ?hp (fun _ hk => hk) trivial (Below.refl _ _) (Nat.le_refl _) (by simp) ?_;(case hd => rfl);(case hg => rfl);(case hr => first | (go_simp;done) | (go_simp;rfl));(case hp => exact (Reps.none _ _));intro v575 w3 ho4 hb hg_ hnew_;clear hg_ hnew_;(first | rw [← Ny574.out] at ho4 | (simp only [Int.reduceToNat] at ho4;rw [← Ny574.out] at ho4));have n0_ := aM (Kd.R_lower ho4 (below_size (by exact bB)));have n1_ := aM (below_step (by exact bB) hb);clear HB;have HO576 := n0_;have HB := n1_;clear n0_ n1_;clear hb ho4))
 go_loopg [5, 6] k (fun kq v5 v6 w' => ∃ (x5_1 : List Int) (x6_1 : Int), v6 = .int .i64 x6_1 ∧ Aside0 (spec_l2Bits.l0 kq a0 a1 x5_1 x6_1 = some r) ∧ Aside0 (kq ≤ k) ∧ Aside0 (Kd.R (Kd.int .i64) 3 w' w.heap.size (fun _ => True) v5 x5_1) ∧ Aside0 (Below w.heap.size w w'))
 case atStart => exact ⟨(y574), (0), (by first | rfl | (simp;done) | (simp [*];done)), H', ⟨Nat.le_refl _⟩, ⟨by exact rP HO576.out⟩, ⟨by exact bB⟩⟩
 case round =>
  clear H'
  try clear c1
  try clear p2
  obtain ⟨x5_1, x6_1, rfl, HA, HK1, HO_5, HB⟩ := hrel
  cases gk with
  | zero => exact absurd HA.out (by simp [spec_l2Bits.l0])
  | succ k1 =>
   have H := HA.out
   clear HA
   simp only [spec_l2Bits.l0] at H
   by_cases c5 : x6_1 < a0
   rotate_left
   ·rw [if_neg c5] at H
    have c5b0 : decide (x6_1 < a0) = false := decide_eq_false c5
    clear c5
    obtain rfl := Option.some.inj H
    go_wp2
    go_ret
    exact ⟨_, by first | rfl | (simp [errW_none, errW_some] <;> rfl) | (simp [*, errW_none, errW_some] <;> rfl), by exact rP HO_5.out, by exact bB⟩
   rw [if_pos c5] at H
   have c5b0 : decide (x6_1 < a0) = true := decide_eq_true c5
   clear c5
   by_cases c6 : 0 ≤ x6_1
   rotate_left
   ·rw [if_neg c6] at H
    exact absurd H (by simp)
   rw [if_pos c6] at H
   have c6b0 := eq_true c6
   have c6b1 : decide (0 ≤ x6_1) = true := decide_eq_true c6
   clear c6
   obtain ⟨ji7, hji7⟩ : ∃ j_ : Int, (shr .i64 a1 x6_1) = j_ := ⟨_, rfl⟩
   replace H : (if (Go.bits .and .i64 (ji7) 1) = 1 then (if x5_1.length < 17592186044416 then (spec_l2Bits.l0 k1 a0 a1 (x5_1 ++ [x6_1]) (wrap64 (x6_1 + 1))) else (none)) else (spec_l2Bits.l0 k1 a0 a1 x5_1 (wrap64 (x6_1 + 1)))) = some r := by first | (rw [hji7] at H;exact H) | (simp only [hji7] at H ⊢;exact H)
   have hji7_ : (a1 / 2 ^ min x6_1.toNat 64) = ji7 := hji7
   have hji7z : x6_1 ≤ 64 → (a1 / 2 ^ x6_1.toNat) = ji7 := shr_small hji7
   by_cases c8 : (Go.bits .and .i64 (ji7) 1) = 1
   rotate_left
   ·rw [if_neg c8] at H
    have c8b0 : ((Go.bits .and .i64 (ji7) 1) == 1) = false := beq_eq_false_iff_ne.mpr c8
    have c8b1 : ((Go.bits .and .i64 (ji7) 1) != 1) = true := bne_iff_ne.mpr c8
    have H' := Aside0.mk H
    clear H
    go_wp2
    go_roundg k1
    case measure => have := HK1.out;omega
    case rel => exact ⟨(x5_1), (wrap64 (x6_1 + 1)), (by first | rfl | (simp;done) | (simp [*];done)), H', ⟨by have := HK1.out;omega⟩, ⟨by exact rP HO_5.out⟩, ⟨by exact bB⟩⟩
   rw [if_pos c8] at H
   have c8b0 : ((Go.bits .and .i64 (ji7) 1) == 1) = true := beq_iff_eq.mpr c8
   have c8b1 : ((Go.bits .and .i64 (ji7) 1) != 1) = false := bne_eq_false_iff_eq.mpr c8
   clear c8
   by_cases c9 : x5_1.length < 17592186044416
   rotate_left
   ·rw [if_neg c9] at H
    exact absurd H (by simp)
   rw [if_pos c9] at H
   have LMc9 := Aside0.mk c9
   clear c9
   obtain ⟨y577, hy577⟩ : ∃ y_ : List Int, y_ = (x5_1 ++ [x6_1]) := ⟨_, rfl⟩
   replace H : (spec_l2Bits.l0 k1 a0 a1 y577 (wrap64 (x6_1 + 1))) = some r := by first | (rw [hy577];with_reducible exact H) | (have H2_ := (Option.bind_some _ _).symm.trans H;rw [hy577];with_reducible exact H2_) | (have H2_ := (Option.bind_some _ _).symm.trans H;with_reducible exact H2_) | with_reducible exact H | (rw [hy577];exact H) | exact H
   have Ny577 := Aside0.mk hy577
   clear hy577
   have H' := Aside0.mk H
   clear H
   go_wp2_with (first | ((with_reducible refine gate_builtin (b := .append) (xs := #[.tmp 18, .tmp 20]) rfl ?_);at_builtin;refine Kd.R_append (Kd.int .i64) (w0 := w) w.heap.size rfl (.tmp 18) (.tmp 20) 28 3 (.int .i64 0) 8 rfl Try.underlying28 info3 rfl (by decide) (by omega) u5 x5_1 x6_1 [.int .i64 x6_1] (fun _ => True) (fun _ => False) rfl rfl ?aP (fun _ hk => hk.elim) ?aF ?aO ?aB ?aS ?aL ?_;(case aP => exact rfl);(case aB => exact (by exact bB));(case aF => exact (fun _ _ => trivial));(case aO => exact (by exact rP HO_5.out));(case aS => exact (below_size (by exact bB)));(case aL => have := LMc9.out;omega);intro v578 w10 ho hb hg hat;rw [← Ny577.out] at ho;have n0_ := aM (hb);have n1_ := aM (ho);clear HB;clear HO_5;have HB := n0_;have HO579 := n1_;clear n0_ n1_;clear ho hb hg hat))
   go_roundg k1
   case measure => have := HK1.out;omega
   case rel => exact ⟨(y577), (wrap64 (x6_1 + 1)), (by first | rfl | (simp;done) | (simp [*];done)), H', ⟨by have := HK1.out;omega⟩, ⟨by exact rP HO579.out⟩, ⟨by exact bB⟩⟩


/-! ### spec_l1Cur_nodes: function 95 -/
def spec_l1Cur_nodes.f (k : Nat) (s0_0 : List Int) (s0_1 : Int) (s0_2 : Int) (a1_0 : Int) (l1_1 : List (S119)) : Option (List Int × Int × Int) := (spec_l1Least.f a1_0 8).bind fun t581 => ((spec_l1Most.f t581 0).bind fun t582 => ((spec_l1Cur_pick.f s0_0 s0_1 s0_2 256).bind fun bt583 => ((spec_l2Bits.f k t582 bt583.1).bind fun t586 => ((spec_l1Cur_one.f s0_0 bt583.2.1 bt583.2.2 20).bind fun bt589 => (if bt589.1 = true then ((spec_l1Cur_among.f s0_0 bt589.2.1 bt589.2.2 (([(-1), 0, 8] : List Int))).bind fun bt595 => (if t586.length < 17592186044416 then (some ((t586 ++ [bt595.1]), bt595.2.1, bt595.2.2)) else (none))) else (some (t586, bt589.2.1, bt589.2.2)))))))
theorem spec_l1Cur_nodes.mono : ∀ a0 a1 a2 a3 a4 k, LeO (spec_l1Cur_nodes.f k a0 a1 a2 a3 a4) (spec_l1Cur_nodes.f (k + 1) a0 a1 a2 a3 a4) := by
 intro a0 a1 a2 a3 a4 k
 unfold spec_l1Cur_nodes.f
 repeat' first
   | (with_reducible exact spec_l2Bits.mono _ _ _)
   | (with_reducible exact LeO.refl _)
   | (with_reducible exact LeO.none _)
   | (with_reducible refine LeO.ite ?_ ?_)
   | (with_reducible refine LeO.bind ?_ (fun _ => ?_))
   | exact LeO.none _
   | refine LeO.ite ?_ ?_
   | refine LeO.bind ?_ (fun _ => ?_)
set_option maxHeartbeats 8000000 in
set_option maxRecDepth 100000 in
theorem spec_l1Cur_nodes.calls (k : Nat) (g : Nat) (s0_0 : List Int) (s0_1 : Int) (s0_2 : Int) (a1_0 : Int) (A1_1 : Option Addr) (c1_1 : Nat) (l1_1 : List (S119)) (r1 : List Int) (r2 : Int) (r3 : Int) (w0 w : World) (hI : IsS91 w0 w g s0_0 s0_1 s0_2) (hB : Below w0.heap.size w0 w) (hr1_1 : ∀ W_, KeepBut w W_ g none → Kd.C k119 W_ A1_1 l1_1.length l1_1) (hc1_1 : l1_1.length ≤ c1_1) (h : spec_l1Cur_nodes.f k s0_0 s0_1 s0_2 a1_0 l1_1 = some (r1, r2, r3)) :
  Calls Try.prog 95 #[.pointer (some ⟨g, 0, none⟩), .agg #[.int .i64 a1_0, .slice A1_1 l1_1.length c1_1]] w fun e w' => ∃ v0_ : Value, e = .returned (v0_) ∧ Kd.R (Kd.int .i64) 3 w' w.heap.size (fun _ => True) v0_ r1 ∧ IsS91 w0 w' g s0_0 r2 r3 ∧ Below w0.heap.size w0 w' ∧ KeepBut w w' g none := by
 have hu31 := Try.underlying31
 have HR1_1 := Aside0.mk hr1_1
 have HC1_1 := Aside0.mk hc1_1
 clear hr1_1 hc1_1
 have HI0 := Aside0.mk hI
 have HK := aM (KeepBut.refl w g none)
 have HL := Aside0.mk hB.size
 clear hI
 have HW0 := Aside0.mk hB.size
 have HB := Aside0.mk hB
 clear hB
 have H : ((spec_l1Least.f a1_0 8).bind fun t581 => ((spec_l1Most.f t581 0).bind fun t582 => ((spec_l1Cur_pick.f s0_0 s0_1 s0_2 256).bind fun bt583 => ((spec_l2Bits.f k t582 bt583.1).bind fun t586 => ((spec_l1Cur_one.f s0_0 bt583.2.1 bt583.2.2 20).bind fun bt589 => (if bt589.1 = true then ((spec_l1Cur_among.f s0_0 bt589.2.1 bt589.2.2 (([(-1), 0, 8] : List Int))).bind fun bt595 => (if t586.length < 17592186044416 then (some ((t586 ++ [bt595.1]), bt595.2.1, bt595.2.2)) else (none))) else (some (t586, bt589.2.1, bt589.2.2)))))))) = some (r1, r2, r3) := h
 clear h
 replace H := Option.bind_eq_some_iff.mp H
 obtain ⟨t581, A30, H⟩ := H
 replace H : ((spec_l1Most.f t581 0).bind fun t582 => ((spec_l1Cur_pick.f s0_0 s0_1 s0_2 256).bind fun bt583 => ((spec_l2Bits.f k t582 bt583.1).bind fun t586 => ((spec_l1Cur_one.f s0_0 bt583.2.1 bt583.2.2 20).bind fun bt589 => (if bt589.1 = true then ((spec_l1Cur_among.f s0_0 bt589.2.1 bt589.2.2 (([(-1), 0, 8] : List Int))).bind fun bt595 => (if t586.length < 17592186044416 then (some ((t586 ++ [bt595.1]), bt595.2.1, bt595.2.2)) else (none))) else (some (t586, bt589.2.1, bt589.2.2))))))) = some (r1, r2, r3) := H
 have A3 := Aside0.mk A30
 clear A30
 replace H := Option.bind_eq_some_iff.mp H
 obtain ⟨t582, A40, H⟩ := H
 replace H : ((spec_l1Cur_pick.f s0_0 s0_1 s0_2 256).bind fun bt583 => ((spec_l2Bits.f k t582 bt583.1).bind fun t586 => ((spec_l1Cur_one.f s0_0 bt583.2.1 bt583.2.2 20).bind fun bt589 => (if bt589.1 = true then ((spec_l1Cur_among.f s0_0 bt589.2.1 bt589.2.2 (([(-1), 0, 8] : List Int))).bind fun bt595 => (if t586.length < 17592186044416 then (some ((t586 ++ [bt595.1]), bt595.2.1, bt595.2.2)) else (none))) else (some (t586, bt589.2.1, bt589.2.2)))))) = some (r1, r2, r3) := H
 have A4 := Aside0.mk A40
 clear A40
 replace H := Option.bind_eq_some_iff.mp H
 obtain ⟨⟨t583, t584, t585⟩, A50, H⟩ := H
 replace H : ((spec_l2Bits.f k t582 t583).bind fun t586 => ((spec_l1Cur_one.f s0_0 t584 t585 20).bind fun bt589 => (if bt589.1 = true then ((spec_l1Cur_among.f s0_0 bt589.2.1 bt589.2.2 (([(-1), 0, 8] : List Int))).bind fun bt595 => (if t586.length < 17592186044416 then (some ((t586 ++ [bt595.1]), bt595.2.1, bt595.2.2)) else (none))) else (some (t586, bt589.2.1, bt589.2.2))))) = some (r1, r2, r3) := H
 have A5 := Aside0.mk A50
 clear A50
 replace H := Option.bind_eq_some_iff.mp H
 obtain ⟨t586, A60, H⟩ := H
 replace H : ((spec_l1Cur_one.f s0_0 t584 t585 20).bind fun bt589 => (if bt589.1 = true then ((spec_l1Cur_among.f s0_0 bt589.2.1 bt589.2.2 (([(-1), 0, 8] : List Int))).bind fun bt595 => (if t586.length < 17592186044416 then (some ((t586 ++ [bt595.1]), bt595.2.1, bt595.2.2)) else (none))) else (some (t586, bt589.2.1, bt589.2.2)))) = some (r1, r2, r3) := H
 have A6 := Aside0.mk A60
 clear A60
 replace H := Option.bind_eq_some_iff.mp H
 obtain ⟨⟨t589, t590, t591⟩, A70, H⟩ := H
 replace H : (if t589 = true then ((spec_l1Cur_among.f s0_0 t590 t591 (([(-1), 0, 8] : List Int))).bind fun bt595 => (if t586.length < 17592186044416 then (some ((t586 ++ [bt595.1]), bt595.2.1, bt595.2.2)) else (none))) else (some (t586, t590, t591))) = some (r1, r2, r3) := H
 have A7 := Aside0.mk A70
 clear A70
 by_cases c8 : t589 = true
 rotate_left
 ·replace c8 := Bool.eq_false_iff.mpr c8
  subst c8
  have H1 : (some (t586, t590, t591)) = some (r1, r2, r3) := by rw [if_neg (show ¬ (false = true) by decide)] at H;exact H
  clear H
  have H := H1
  clear H1
  simp only [Option.some.injEq, Prod.mk.injEq] at H
  obtain ⟨rfl, rfl, rfl⟩ := H
  go_enter Try.func95, Try.ntmps95
  go_wp2_with (first | ((with_reducible refine gate_dst (N := 3) rfl ?_);refine box_event ?hg (N := 3) ?hd (cs := #[.int .i64 a1_0, .slice A1_1 l1_1.length c1_1]) (t := 31) ?hr ?_;(case hd => rfl);(case hg => rfl);(case hr => first | (go_simp;done) | (go_simp;rfl));intro gb580 hg w22 hbox hb;have n0_ := aM (IsS91.below (by repeat (first | (with_reducible first | exact HI0.out | apply IsS91.alloc | apply IsS91.drewN | apply IsS91.drew | apply IsS91.set_1 | apply IsS91.set_2) | exact HI0.out)) hb);have n1_ := aM (KeepBut.trans (by exact kK) (KeepBut.of_below hb g none) (.inl rfl));have n2_ := aM (below_step (by exact bB) hb);have n3_ := aM (hbox);have n4_ := aM ((by rw [hg];exact (keep_size (w := w) (g := g) (row := none) (by exact kK)) : w.heap.size ≤ gb580));have n5_ := aM ((Nat.le_trans HW0.out (by rw [hg];exact (keep_size (w := w) (g := g) (row := none) (by exact kK)) : w.heap.size ≤ gb580) : w0.heap.size ≤ gb580));have n6_ := aM ((by rw [hg];exact Nat.ne_of_lt (IsS91.lt (show IsS91 w0 _ g s0_0 s0_1 s0_2 from by exact sS)) : g ≠ gb580));have n7_ := aM ((by rw [hg];exact Nat.ne_of_gt (IsS91.lt (show IsS91 w0 _ g s0_0 s0_1 s0_2 from by exact sS)) : gb580 ≠ g));clear HI0;clear HK;clear HB;have HI0 := n0_;have HK := n1_;have HB := n2_;have BK580 := n3_;have GW580 := n4_;have GE580 := n5_;have NB0_580 := n6_;have NB580_0 := n7_;clear n0_ n1_ n2_ n3_ n4_ n5_ n6_ n7_;clear hb hbox hg;have hnb23 := NB580_0.out;have hnc23 := NB0_580.out;have hcz24_0 := bC0 BK580.out;have hcz24_1 := bC1 BK580.out;have hfz24_0 := blk_frozen BK580.out 0;have hfz24_1 := blk_frozen BK580.out 1) | ((with_reducible refine gate_callee (f := 126) rfl ?_);refine goesL_ (some 8) rfl rfl Try.func126 (by kernel_rfl) rfl #[.int .i64 a1_0, .int .i64 8] rfl mM ?_;(with_reducible refine (spec_l1Least.calls a1_0 8 t581 _ A3.out).mono ?_);rintro e w' ⟨rfl, ⟨nd, rfl⟩⟩;refine ⟨_, rfl, ?_⟩) | ((with_reducible refine gate_callee (f := 136) rfl ?_);refine goesL_ (some 9) rfl rfl Try.func136 (by kernel_rfl) rfl #[.int .i64 t581, .int .i64 0] rfl mM ?_;(with_reducible refine (spec_l1Most.calls t581 0 t582 _ A4.out).mono ?_);rintro e w' ⟨rfl, ⟨nd, rfl⟩⟩;refine ⟨_, rfl, ?_⟩) | ((with_reducible refine gate_callee (f := 131) rfl ?_);refine goesL_ (some 11) rfl rfl Try.func131 (by kernel_rfl) rfl #[.pointer (some ⟨g, 0, none⟩), .int .i64 256] rfl mM ?_;(with_reducible refine (spec_l1Cur_pick.calls g s0_0 s0_1 s0_2 256 t583 t584 t585 w0 _ ?side1 ?side2 A5.out).mono ?_);(case side1 => exact sS);(case side2 => exact bB);rintro e w25 ⟨rfl, hi, hb, hk⟩;refine ⟨_, rfl, ?_⟩;have n0_ := aM (KeepBut.blk hk (g' := gb580) (o := .cells #[.int .i64 a1_0, .slice A1_1 l1_1.length c1_1] 31 (0, 0)) (by exact kP BK580.out) NB580_0.out (by simp));have n1_ := aM (KeepBut.trans (by exact kK) hk (.inl rfl));have n2_ := aM (hb);have n3_ := aM (hi);clear BK580;clear HK;clear HB;clear HI0;have BK580 := n0_;have HK := n1_;have HB := n2_;have HI0 := n3_;clear n0_ n1_ n2_ n3_;(try clear hb);(try clear hb2);(try clear hk);(try clear hi)) | ((with_reducible refine gate_callee (f := 108) rfl ?_);refine goesL_ (some 12) rfl rfl Try.func108 (by kernel_rfl) rfl #[.int .i64 t582, .int .i64 t583] rfl mM ?_;(with_reducible refine (spec_l2Bits.calls k t582 t583 t586 _ A6.out).mono ?_);rintro e w26 ⟨v587, rfl, ho0, hb⟩;refine ⟨_, rfl, ?_⟩;have n0_ := aM (Kd.R_lower ho0 (keep_size (w := w) (g := g) (row := none) (by exact kK)));have n1_ := aM (IsS91.below (by repeat (first | (with_reducible first | exact HI0.out | apply IsS91.alloc | apply IsS91.drewN | apply IsS91.drew | apply IsS91.set_1 | apply IsS91.set_2 | refine IsS91.far ?_ NB0_580.out _) | exact HI0.out)) hb);have n2_ := aM (kB hb BK580.out);have n3_ := aM (KeepBut.trans (by exact kK) (KeepBut.of_below hb g none) (.inl rfl));have n4_ := aM (below_step (by exact bB) hb);clear HI0;clear BK580;clear HK;clear HB;have HO588 := n0_;have HI0 := n1_;have BK580 := n2_;have HK := n3_;have HB := n4_;clear n0_ n1_ n2_ n3_ n4_;(try clear hb);(try clear hb2);(try clear hk);(try clear hi);(try clear ho0)) | ((with_reducible refine gate_callee (f := 130) rfl ?_);refine goesL_ (some 14) rfl rfl Try.func130 (by kernel_rfl) rfl #[.pointer (some ⟨g, 0, none⟩), .int .i64 20] rfl mM ?_;(with_reducible refine (spec_l1Cur_one.calls g s0_0 t584 t585 20 false t590 t591 w0 _ ?side1 ?side2 A7.out).mono ?_);(case side1 => exact sS);(case side2 => exact bB);rintro e w27 ⟨rfl, hi, hb, hk⟩;refine ⟨_, rfl, ?_⟩;have n0_ := aM (KeepBut.blk hk (g' := gb580) (o := .cells #[.int .i64 a1_0, .slice A1_1 l1_1.length c1_1] 31 (0, 0)) (by exact kP BK580.out) NB580_0.out (by simp));have n1_ := aM (Kd.R_mono (Kd.R_keep (IsS91.apart (show IsS91 w0 _ g s0_0 t584 t585 from by exact sS) (by exact rP HO588.out) (by decide)) hk (fun _ h => h.2)) (fun _ h => h.1));have n2_ := aM (KeepBut.trans (by exact kK) hk (.inl rfl));have n3_ := aM (hb);have n4_ := aM (hi);clear BK580;clear HO588;clear HK;clear HB;clear HI0;have BK580 := n0_;have HO588 := n1_;have HK := n2_;have HB := n3_;have HI0 := n4_;clear n0_ n1_ n2_ n3_ n4_;(try clear hb);(try clear hb2);(try clear hk);(try clear hi)))
  go_ret
  exact ⟨_, by first | rfl | (simp [errW_none, errW_some] <;> rfl) | (simp [*, errW_none, errW_some] <;> rfl), by exact rP HO588.out, by exact sS, by exact bB, by exact kK⟩
 subst c8
 have H1 : ((spec_l1Cur_among.f s0_0 t590 t591 (([(-1), 0, 8] : List Int))).bind fun bt595 => (if t586.length < 17592186044416 then (some ((t586 ++ [bt595.1]), bt595.2.1, bt595.2.2)) else (none))) = some (r1, r2, r3) := by rw [if_pos rfl] at H;exact H
 clear H
 have H := H1
 clear H1
 obtain ⟨y592, hy592⟩ : ∃ y_ : List Int, y_ = (([(-1), 0, 8] : List Int)) := ⟨_, rfl⟩
 replace H : ((spec_l1Cur_among.f s0_0 t590 t591 y592).bind fun bt595 => (if t586.length < 17592186044416 then (some ((t586 ++ [bt595.1]), bt595.2.1, bt595.2.2)) else (none))) = some (r1, r2, r3) := by first | (rw [hy592];with_reducible exact H) | (have H2_ := (Option.bind_some _ _).symm.trans H;rw [hy592];with_reducible exact H2_) | (have H2_ := (Option.bind_some _ _).symm.trans H;with_reducible exact H2_) | with_reducible exact H | (rw [hy592];exact H) | exact H
 have Ny592 := Aside0.mk hy592
 clear hy592
 replace H := Option.bind_eq_some_iff.mp H
 obtain ⟨⟨t595, t596, t597⟩, A90, H⟩ := H
 replace H : (if t586.length < 17592186044416 then (some ((t586 ++ [t595]), t596, t597)) else (none)) = some (r1, r2, r3) := H
 have A9 := Aside0.mk A90
 clear A90
 by_cases c10 : t586.length < 17592186044416
 rotate_left
 ·rw [if_neg c10] at H
  exact absurd H (by simp)
 rw [if_pos c10] at H
 have LMc10 := Aside0.mk c10
 clear c10
 obtain ⟨y598, hy598⟩ : ∃ y_ : List Int, y_ = (t586 ++ [t595]) := ⟨_, rfl⟩
 replace H : (some (y598, t596, t597)) = some (r1, r2, r3) := by first | (rw [hy598];with_reducible exact H) | (have H2_ := (Option.bind_some _ _).symm.trans H;rw [hy598];with_reducible exact H2_) | (have H2_ := (Option.bind_some _ _).symm.trans H;with_reducible exact H2_) | with_reducible exact H | (rw [hy598];exact H) | exact H
 have Ny598 := Aside0.mk hy598
 clear hy598
 simp only [Option.some.injEq, Prod.mk.injEq] at H
 obtain ⟨rfl, rfl, rfl⟩ := H
 go_enter Try.func95, Try.ntmps95
 go_wp2_with (first | ((with_reducible refine gate_dst (N := 3) rfl ?_);refine box_event ?hg (N := 3) ?hd (cs := #[.int .i64 a1_0, .slice A1_1 l1_1.length c1_1]) (t := 31) ?hr ?_;(case hd => rfl);(case hg => rfl);(case hr => first | (go_simp;done) | (go_simp;rfl));intro gb580 hg w11 hbox hb;have n0_ := aM (IsS91.below (by repeat (first | (with_reducible first | exact HI0.out | apply IsS91.alloc | apply IsS91.drewN | apply IsS91.drew | apply IsS91.set_1 | apply IsS91.set_2) | exact HI0.out)) hb);have n1_ := aM (KeepBut.trans (by exact kK) (KeepBut.of_below hb g none) (.inl rfl));have n2_ := aM (below_step (by exact bB) hb);have n3_ := aM (hbox);have n4_ := aM ((by rw [hg];exact (keep_size (w := w) (g := g) (row := none) (by exact kK)) : w.heap.size ≤ gb580));have n5_ := aM ((Nat.le_trans HW0.out (by rw [hg];exact (keep_size (w := w) (g := g) (row := none) (by exact kK)) : w.heap.size ≤ gb580) : w0.heap.size ≤ gb580));have n6_ := aM ((by rw [hg];exact Nat.ne_of_lt (IsS91.lt (show IsS91 w0 _ g s0_0 s0_1 s0_2 from by exact sS)) : g ≠ gb580));have n7_ := aM ((by rw [hg];exact Nat.ne_of_gt (IsS91.lt (show IsS91 w0 _ g s0_0 s0_1 s0_2 from by exact sS)) : gb580 ≠ g));clear HI0;clear HK;clear HB;have HI0 := n0_;have HK := n1_;have HB := n2_;have BK580 := n3_;have GW580 := n4_;have GE580 := n5_;have NB0_580 := n6_;have NB580_0 := n7_;clear n0_ n1_ n2_ n3_ n4_ n5_ n6_ n7_;clear hb hbox hg;have hnb12 := NB580_0.out;have hnc12 := NB0_580.out;have hcz13_0 := bC0 BK580.out;have hcz13_1 := bC1 BK580.out;have hfz13_0 := blk_frozen BK580.out 0;have hfz13_1 := blk_frozen BK580.out 1) | ((with_reducible refine gate_callee (f := 126) rfl ?_);refine goesL_ (some 8) rfl rfl Try.func126 (by kernel_rfl) rfl #[.int .i64 a1_0, .int .i64 8] rfl mM ?_;(with_reducible refine (spec_l1Least.calls a1_0 8 t581 _ A3.out).mono ?_);rintro e w' ⟨rfl, ⟨nd, rfl⟩⟩;refine ⟨_, rfl, ?_⟩) | ((with_reducible refine gate_callee (f := 136) rfl ?_);refine goesL_ (some 9) rfl rfl Try.func136 (by kernel_rfl) rfl #[.int .i64 t581, .int .i64 0] rfl mM ?_;(with_reducible refine (spec_l1Most.calls t581 0 t582 _ A4.out).mono ?_);rintro e w' ⟨rfl, ⟨nd, rfl⟩⟩;refine ⟨_, rfl, ?_⟩) | ((with_reducible refine gate_callee (f := 131) rfl ?_);refine goesL_ (some 11) rfl rfl Try.func131 (by kernel_rfl) rfl #[.pointer (some ⟨g, 0, none⟩), .int .i64 256] rfl mM ?_;(with_reducible refine (spec_l1Cur_pick.calls g s0_0 s0_1 s0_2 256 t583 t584 t585 w0 _ ?side1 ?side2 A5.out).mono ?_);(case side1 => exact sS);(case side2 => exact bB);rintro e w14 ⟨rfl, hi, hb, hk⟩;refine ⟨_, rfl, ?_⟩;have n0_ := aM (KeepBut.blk hk (g' := gb580) (o := .cells #[.int .i64 a1_0, .slice A1_1 l1_1.length c1_1] 31 (0, 0)) (by exact kP BK580.out) NB580_0.out (by simp));have n1_ := aM (KeepBut.trans (by exact kK) hk (.inl rfl));have n2_ := aM (hb);have n3_ := aM (hi);clear BK580;clear HK;clear HB;clear HI0;have BK580 := n0_;have HK := n1_;have HB := n2_;have HI0 := n3_;clear n0_ n1_ n2_ n3_;(try clear hb);(try clear hb2);(try clear hk);(try clear hi)) | ((with_reducible refine gate_callee (f := 108) rfl ?_);refine goesL_ (some 12) rfl rfl Try.func108 (by kernel_rfl) rfl #[.int .i64 t582, .int .i64 t583] rfl mM ?_;(with_reducible refine (spec_l2Bits.calls k t582 t583 t586 _ A6.out).mono ?_);rintro e w15 ⟨v587, rfl, ho0, hb⟩;refine ⟨_, rfl, ?_⟩;have n0_ := aM (Kd.R_lower ho0 (keep_size (w := w) (g := g) (row := none) (by exact kK)));have n1_ := aM (IsS91.below (by repeat (first | (with_reducible first | exact HI0.out | apply IsS91.alloc | apply IsS91.drewN | apply IsS91.drew | apply IsS91.set_1 | apply IsS91.set_2 | refine IsS91.far ?_ NB0_580.out _) | exact HI0.out)) hb);have n2_ := aM (kB hb BK580.out);have n3_ := aM (KeepBut.trans (by exact kK) (KeepBut.of_below hb g none) (.inl rfl));have n4_ := aM (below_step (by exact bB) hb);clear HI0;clear BK580;clear HK;clear HB;have HO588 := n0_;have HI0 := n1_;have BK580 := n2_;have HK := n3_;have HB := n4_;clear n0_ n1_ n2_ n3_ n4_;(try clear hb);(try clear hb2);(try clear hk);(try clear hi);(try clear ho0)) | ((with_reducible refine gate_callee (f := 130) rfl ?_);refine goesL_ (some 14) rfl rfl Try.func130 (by kernel_rfl) rfl #[.pointer (some ⟨g, 0, none⟩), .int .i64 20] rfl mM ?_;(with_reducible refine (spec_l1Cur_one.calls g s0_0 t584 t585 20 true t590 t591 w0 _ ?side1 ?side2 A7.out).mono ?_);(case side1 => exact sS);(case side2 => exact bB);rintro e w16 ⟨rfl, hi, hb, hk⟩;refine ⟨_, rfl, ?_⟩;have n0_ := aM (KeepBut.blk hk (g' := gb580) (o := .cells #[.int .i64 a1_0, .slice A1_1 l1_1.length c1_1] 31 (0, 0)) (by exact kP BK580.out) NB580_0.out (by simp));have n1_ := aM (Kd.R_mono (Kd.R_keep (IsS91.apart (show IsS91 w0 _ g s0_0 t584 t585 from by exact sS) (by exact rP HO588.out) (by decide)) hk (fun _ h => h.2)) (fun _ h => h.1));have n2_ := aM (KeepBut.trans (by exact kK) hk (.inl rfl));have n3_ := aM (hb);have n4_ := aM (hi);clear BK580;clear HO588;clear HK;clear HB;clear HI0;have BK580 := n0_;have HO588 := n1_;have HK := n2_;have HB := n3_;have HI0 := n4_;clear n0_ n1_ n2_ n3_ n4_;(try clear hb);(try clear hb2);(try clear hk);(try clear hi)) | ((with_reducible refine gate_dst (N := 17) rfl ?_);refine Kd.R_lit (Kd.int .i64) _ 3 ?hg (N := 17) ?hd (xs := ([(-1), 0, 8] : List Int)) (inner := [.int .i64 (-1), .int .i64 0, .int .i64 8]) (ok := fun _ => True) (okp := fun _ => True) ?hr ?hp (fun _ hk => hk) trivial (Below.refl _ _) (Nat.le_refl _) (by simp) ?_;(case hd => rfl);(case hg => rfl);(case hr => first | (go_simp;done) | (go_simp;rfl));(case hp => exact (Reps.one (show Kd.M (Kd.int .i64) _ _ _ (-1) [.int .i64 (-1)] from rfl) (Reps.one (show Kd.M (Kd.int .i64) _ _ _ 0 [.int .i64 0] from rfl) (Reps.one (show Kd.M (Kd.int .i64) _ _ _ 8 [.int .i64 8] from rfl) (Reps.none _ _)))));intro v593 w17 ho18 hb hg_ hnew_;clear hg_ hnew_;(first | rw [← Ny592.out] at ho18 | (simp only [Int.reduceToNat] at ho18;rw [← Ny592.out] at ho18));have n0_ := aM (Kd.R_elder' (by exact rP HO588.out) (Kd.R_base ho18) hb);have n1_ := aM (Kd.R_lower (Kd.R_new' ho18 (Kd.R_lt (by exact rP HO588.out))) (keep_size (w := w) (g := g) (row := none) (by exact kK)));have n2_ := aM (IsS91.below (by repeat (first | (with_reducible first | exact HI0.out | apply IsS91.alloc | apply IsS91.drewN | apply IsS91.drew | apply IsS91.set_1 | apply IsS91.set_2 | refine IsS91.far ?_ NB0_580.out _) | exact HI0.out)) hb);have n3_ := aM (kB hb BK580.out);have n4_ := aM (KeepBut.trans (by exact kK) (KeepBut.of_below hb g none) (.inl rfl));have n5_ := aM (below_step (by exact bB) hb);clear HO588;clear HI0;clear BK580;clear HK;clear HB;have HO588 := n0_;have HO594 := n1_;have HI0 := n2_;have BK580 := n3_;have HK := n4_;have HB := n5_;clear n0_ n1_ n2_ n3_ n4_ n5_;clear hb ho18;obtain ⟨Ao19, co19, eo19⟩ := Kd.R_slice HO594.out;subst eo19) | ((with_reducible refine gate_callee (f := 129) rfl ?_);refine goesL_ (some 18) rfl rfl Try.func129 (by kernel_rfl) rfl #[.pointer (some ⟨g, 0, none⟩), .slice Ao19 y592.length co19] rfl mM ?_;(with_reducible refine (spec_l1Cur_among.calls g s0_0 t590 t591 _ _ y592 t595 t596 t597 w0 _ ?side1 ?side2 ?side3 ?side4 ?side5 A9.out).mono ?_);(case side1 => exact sS);(case side2 => exact bB);(case side3 => exact cP (Kd.R_reads' HO594.out).2.2);(case side4 => exact (Kd.R_reads' HO594.out).2.1);(case side5 => exact far_slice (IsS91.own_ne HI0.out HO594.out (by decide)));rintro e w20 ⟨rfl, hi, hb, hk⟩;refine ⟨_, rfl, ?_⟩;have n0_ := aM (KeepBut.blk hk (g' := gb580) (o := .cells #[.int .i64 a1_0, .slice A1_1 l1_1.length c1_1] 31 (0, 0)) (by exact kP BK580.out) NB580_0.out (by simp));have n1_ := aM (Kd.R_mono (Kd.R_keep (IsS91.apart (show IsS91 w0 _ g s0_0 t590 t591 from by exact sS) (by exact rP HO588.out) (by decide)) hk (fun _ h => h.2)) (fun _ h => h.1));have n2_ := aM (Kd.R_mono (Kd.R_keep (IsS91.apart (show IsS91 w0 _ g s0_0 t590 t591 from by exact sS) (by exact rP HO594.out) (by decide)) hk (fun _ h => h.2)) (fun _ h => h.1));have n3_ := aM (KeepBut.trans (by exact kK) hk (.inl rfl));have n4_ := aM (hb);have n5_ := aM (hi);clear BK580;clear HO588;clear HO594;clear HK;clear HB;clear HI0;have BK580 := n0_;have HO588 := n1_;have HO594 := n2_;have HK := n3_;have HB := n4_;have HI0 := n5_;clear n0_ n1_ n2_ n3_ n4_ n5_;(try clear hb);(try clear hb2);(try clear hk);(try clear hi)) | ((with_reducible refine gate_builtin (b := .append) (xs := #[.tmp 15, .tmp 19]) rfl ?_);at_builtin;refine Kd.R_append (Kd.int .i64) w.heap.size rfl (.tmp 15) (.tmp 19) 28 3 (.int .i64 0) 8 rfl Try.underlying28 info3 rfl (by decide) (by omega) v587 t586 t595 [.int .i64 t595] (fun k_ => some k_ ≠ (.slice Ao19 y592.length co19 : Value).ownBlock) (fun _ => False) rfl rfl ?aP (fun _ hk => hk.elim) ?aF ?aO (Below.refl _ _) ?aS ?aL ?_;(case aP => exact rfl);(case aF => exact (fun k_ hk => Kd.fresh' (Kd.R_lt (by exact rP HO594.out)) k_ hk));(case aO => exact (by refine rP ?_;exact Kd.R_mono HO588.out (fun _ hk => hk.2)));(case aS => exact (keep_size (w := w) (g := g) (row := none) (by exact kK)));(case aL => have := LMc10.out;omega);intro v599 w21 ho hb hg hat;rw [← Ny598.out] at ho;have n0_ := aM (IsS91.grown (by exact sS) hg (IsS91.own_ne HI0.out HO588.out (by decide)));have n1_ := aM (blk_grown (g := gb580) (o := .cells #[.int .i64 a1_0, .slice A1_1 l1_1.length c1_1] 31 (0, 0)) (by exact kP BK580.out) hg (Kd.R_ne HO588.out BK580.out (by decide)));have n2_ := aM (Kd.R_after (ok := (fun _ => True)) (by exact rP HO594.out) hg hat);have n3_ := aM (below_weaken (by exact bB) HL.out hb);have n4_ := aM (KeepBut.trans (by exact kK) (KeepBut.of_grown hg g) (Kd.R_base2 HO588.out));have n5_ := aM (ho);clear HI0;clear BK580;clear HO594;clear HB;clear HK;clear HO588;have HI0 := n0_;have BK580 := n1_;have HO594 := n2_;have HB := n3_;have HK := n4_;have HO600 := n5_;clear n0_ n1_ n2_ n3_ n4_ n5_;clear ho hb hg hat))
 go_ret
 exact ⟨_, by first | rfl | (simp [errW_none, errW_some] <;> rfl) | (simp [*, errW_none, errW_some] <;> rfl), by refine rP ?_;exact Kd.R_mono HO600.out (fun _ hk => trivial), by exact sS, by exact bB, by exact kK⟩


/-! ### spec_l1Cur_number: function 96 -/
def spec_l1Cur_number.f (s0_0 : List Int) (s0_1 : Int) (s0_2 : Int) : Option (Int × Int × Int) := (spec_l1Cur_one.f s0_0 s0_1 s0_2 20).bind fun bt601 => (if bt601.1 = true then ((spec_l1Cur_among.f s0_0 bt601.2.1 bt601.2.2 (([0, (-1), 9, 4611686018427387904] : List Int))).bind fun bt607 => (some (bt607.1, bt607.2.1, bt607.2.2))) else ((spec_l1Cur_among.f s0_0 bt601.2.1 bt601.2.2 (([1, 2, 2, 3, 4, 8] : List Int))).bind fun bt613 => (some (bt613.1, bt613.2.1, bt613.2.2))))
set_option maxHeartbeats 8000000 in
set_option maxRecDepth 100000 in
theorem spec_l1Cur_number.calls (g : Nat) (s0_0 : List Int) (s0_1 : Int) (s0_2 : Int) (r1 : Int) (r2 : Int) (r3 : Int) (w0 w : World) (hI : IsS91 w0 w g s0_0 s0_1 s0_2) (hB : Below w0.heap.size w0 w) (h : spec_l1Cur_number.f s0_0 s0_1 s0_2 = some (r1, r2, r3)) :
  Calls Try.prog 96 #[.pointer (some ⟨g, 0, none⟩)] w fun e w' => e = .returned (.int .i64 r1) ∧ IsS91 w0 w' g s0_0 r2 r3 ∧ Below w0.heap.size w0 w' ∧ KeepBut w w' g none := by
 have HI0 := Aside0.mk hI
 have HK := aM (KeepBut.refl w g none)
 have HL := Aside0.mk hB.size
 clear hI
 have HW0 := Aside0.mk hB.size
 have HB := Aside0.mk hB
 clear hB
 have H : ((spec_l1Cur_one.f s0_0 s0_1 s0_2 20).bind fun bt601 => (if bt601.1 = true then ((spec_l1Cur_among.f s0_0 bt601.2.1 bt601.2.2 (([0, (-1), 9, 4611686018427387904] : List Int))).bind fun bt607 => (some (bt607.1, bt607.2.1, bt607.2.2))) else ((spec_l1Cur_among.f s0_0 bt601.2.1 bt601.2.2 (([1, 2, 2, 3, 4, 8] : List Int))).bind fun bt613 => (some (bt613.1, bt613.2.1, bt613.2.2))))) = some (r1, r2, r3) := h
 clear h
 replace H := Option.bind_eq_some_iff.mp H
 obtain ⟨⟨t601, t602, t603⟩, A20, H⟩ := H
 replace H : (if t601 = true then ((spec_l1Cur_among.f s0_0 t602 t603 (([0, (-1), 9, 4611686018427387904] : List Int))).bind fun bt607 => (some (bt607.1, bt607.2.1, bt607.2.2))) else ((spec_l1Cur_among.f s0_0 t602 t603 (([1, 2, 2, 3, 4, 8] : List Int))).bind fun bt613 => (some (bt613.1, bt613.2.1, bt613.2.2)))) = some (r1, r2, r3) := H
 have A2 := Aside0.mk A20
 clear A20
 by_cases c3 : t601 = true
 ·subst c3
  have H1 : ((spec_l1Cur_among.f s0_0 t602 t603 (([0, (-1), 9, 4611686018427387904] : List Int))).bind fun bt607 => (some (bt607.1, bt607.2.1, bt607.2.2))) = some (r1, r2, r3) := by rw [if_pos rfl] at H;exact H
  clear H
  have H := H1
  clear H1
  obtain ⟨y604, hy604⟩ : ∃ y_ : List Int, y_ = (([0, (-1), 9, 4611686018427387904] : List Int)) := ⟨_, rfl⟩
  replace H : ((spec_l1Cur_among.f s0_0 t602 t603 y604).bind fun bt607 => (some (bt607.1, bt607.2.1, bt607.2.2))) = some (r1, r2, r3) := by first | (rw [hy604];with_reducible exact H) | (have H2_ := (Option.bind_some _ _).symm.trans H;rw [hy604];with_reducible exact H2_) | (have H2_ := (Option.bind_some _ _).symm.trans H;with_reducible exact H2_) | with_reducible exact H | (rw [hy604];exact H) | exact H
  have Ny604 := Aside0.mk hy604
  clear hy604
  replace H := Option.bind_eq_some_iff.mp H
  obtain ⟨⟨t607, t608, t609⟩, A40, H⟩ := H
  replace H : (some (t607, t608, t609)) = some (r1, r2, r3) := H
  have A4 := Aside0.mk A40
  clear A40
  simp only [Option.some.injEq, Prod.mk.injEq] at H
  obtain ⟨rfl, rfl, rfl⟩ := H
  go_enter Try.func96, Try.ntmps96
  go_wp2_with (first | ((with_reducible refine gate_callee (f := 130) rfl ?_);refine goesL_ (some 4) rfl rfl Try.func130 (by kernel_rfl) rfl #[.pointer (some ⟨g, 0, none⟩), .int .i64 20] rfl mM ?_;(with_reducible refine (spec_l1Cur_one.calls g s0_0 s0_1 s0_2 20 true t602 t603 w0 _ ?side1 ?side2 A2.out).mono ?_);(case side1 => exact sS);(case side2 => exact bB);rintro e w5 ⟨rfl, hi, hb, hk⟩;refine ⟨_, rfl, ?_⟩;have n0_ := aM (KeepBut.trans (by exact kK) hk (.inl rfl));have n1_ := aM (hb);have n2_ := aM (hi);clear HK;clear HB;clear HI0;have HK := n0_;have HB := n1_;have HI0 := n2_;clear n0_ n1_ n2_;(try clear hb);(try clear hb2);(try clear hk);(try clear hi)) | ((with_reducible refine gate_dst (N := 6) rfl ?_);refine Kd.R_lit (Kd.int .i64) _ 3 ?hg (N := 6) ?hd (xs := ([0, (-1), 9, 4611686018427387904] : List Int)) (inner := [.int .i64 0, .int .i64 (-1), .int .i64 9, .int .i64 4611686018427387904]) (ok := fun _ => True) (okp := fun _ => True) ?hr ?hp (fun _ hk => hk) trivial (Below.refl _ _) (Nat.le_refl _) (by simp) ?_;(case hd => rfl);(case hg => rfl);(case hr => first | (go_simp;done) | (go_simp;rfl));(case hp => exact (Reps.one (show Kd.M (Kd.int .i64) _ _ _ 0 [.int .i64 0] from rfl) (Reps.one (show Kd.M (Kd.int .i64) _ _ _ (-1) [.int .i64 (-1)] from rfl) (Reps.one (show Kd.M (Kd.int .i64) _ _ _ 9 [.int .i64 9] from rfl) (Reps.one (show Kd.M (Kd.int .i64) _ _ _ 4611686018427387904 [.int .i64 4611686018427387904] from rfl) (Reps.none _ _))))));intro v605 w6 ho7 hb hg_ hnew_;clear hg_ hnew_;(first | rw [← Ny604.out] at ho7 | (simp only [Int.reduceToNat] at ho7;rw [← Ny604.out] at ho7));have n0_ := aM (Kd.R_lower ho7 (keep_size (w := w) (g := g) (row := none) (by exact kK)));have n1_ := aM (IsS91.below (by repeat (first | (with_reducible first | exact HI0.out | apply IsS91.alloc | apply IsS91.drewN | apply IsS91.drew | apply IsS91.set_1 | apply IsS91.set_2) | exact HI0.out)) hb);have n2_ := aM (KeepBut.trans (by exact kK) (KeepBut.of_below hb g none) (.inl rfl));have n3_ := aM (below_step (by exact bB) hb);clear HI0;clear HK;clear HB;have HO606 := n0_;have HI0 := n1_;have HK := n2_;have HB := n3_;clear n0_ n1_ n2_ n3_;clear hb ho7;obtain ⟨Ao8, co8, eo8⟩ := Kd.R_slice HO606.out;subst eo8) | ((with_reducible refine gate_callee (f := 129) rfl ?_);refine goesL_ (some 7) rfl rfl Try.func129 (by kernel_rfl) rfl #[.pointer (some ⟨g, 0, none⟩), .slice Ao8 y604.length co8] rfl mM ?_;(with_reducible refine (spec_l1Cur_among.calls g s0_0 t602 t603 _ _ y604 t607 t608 t609 w0 _ ?side1 ?side2 ?side3 ?side4 ?side5 A4.out).mono ?_);(case side1 => exact sS);(case side2 => exact bB);(case side3 => exact cP (Kd.R_reads' HO606.out).2.2);(case side4 => exact (Kd.R_reads' HO606.out).2.1);(case side5 => exact far_slice (IsS91.own_ne HI0.out HO606.out (by decide)));rintro e w9 ⟨rfl, hi, hb, hk⟩;refine ⟨_, rfl, ?_⟩;have n0_ := aM (Kd.R_mono (Kd.R_keep (IsS91.apart (show IsS91 w0 _ g s0_0 t602 t603 from by exact sS) (by exact rP HO606.out) (by decide)) hk (fun _ h => h.2)) (fun _ h => h.1));have n1_ := aM (KeepBut.trans (by exact kK) hk (.inl rfl));have n2_ := aM (hb);have n3_ := aM (hi);clear HO606;clear HK;clear HB;clear HI0;have HO606 := n0_;have HK := n1_;have HB := n2_;have HI0 := n3_;clear n0_ n1_ n2_ n3_;(try clear hb);(try clear hb2);(try clear hk);(try clear hi)))
  go_ret
  exact ⟨by first | rfl | (simp [errW_none, errW_some] <;> rfl) | (simp [*, errW_none, errW_some] <;> rfl), by exact sS, by exact bB, by exact kK⟩
 replace c3 := Bool.eq_false_iff.mpr c3
 subst c3
 have H1 : ((spec_l1Cur_among.f s0_0 t602 t603 (([1, 2, 2, 3, 4, 8] : List Int))).bind fun bt613 => (some (bt613.1, bt613.2.1, bt613.2.2))) = some (r1, r2, r3) := by rw [if_neg (show ¬ (false = true) by decide)] at H;exact H
 clear H
 have H := H1
 clear H1
 obtain ⟨y610, hy610⟩ : ∃ y_ : List Int, y_ = (([1, 2, 2, 3, 4, 8] : List Int)) := ⟨_, rfl⟩
 replace H : ((spec_l1Cur_among.f s0_0 t602 t603 y610).bind fun bt613 => (some (bt613.1, bt613.2.1, bt613.2.2))) = some (r1, r2, r3) := by first | (rw [hy610];with_reducible exact H) | (have H2_ := (Option.bind_some _ _).symm.trans H;rw [hy610];with_reducible exact H2_) | (have H2_ := (Option.bind_some _ _).symm.trans H;with_reducible exact H2_) | with_reducible exact H | (rw [hy610];exact H) | exact H
 have Ny610 := Aside0.mk hy610
 clear hy610
 replace H := Option.bind_eq_some_iff.mp H
 obtain ⟨⟨t613, t614, t615⟩, A100, H⟩ := H
 replace H : (some (t613, t614, t615)) = some (r1, r2, r3) := H
 have A10 := Aside0.mk A100
 clear A100
 simp only [Option.some.injEq, Prod.mk.injEq] at H
 obtain ⟨rfl, rfl, rfl⟩ := H
 go_enter Try.func96, Try.ntmps96
 go_wp2_with (first | ((with_reducible refine gate_callee (f := 130) rfl ?_);refine goesL_ (some 4) rfl rfl Try.func130 (by kernel_rfl) rfl #[.pointer (some ⟨g, 0, none⟩), .int .i64 20] rfl mM ?_;(with_reducible refine (spec_l1Cur_one.calls g s0_0 s0_1 s0_2 20 false t602 t603 w0 _ ?side1 ?side2 A2.out).mono ?_);(case side1 => exact sS);(case side2 => exact bB);rintro e w11 ⟨rfl, hi, hb, hk⟩;refine ⟨_, rfl, ?_⟩;have n0_ := aM (KeepBut.trans (by exact kK) hk (.inl rfl));have n1_ := aM (hb);have n2_ := aM (hi);clear HK;clear HB;clear HI0;have HK := n0_;have HB := n1_;have HI0 := n2_;clear n0_ n1_ n2_;(try clear hb);(try clear hb2);(try clear hk);(try clear hi)) | ((with_reducible refine gate_dst (N := 9) rfl ?_);refine Kd.R_lit (Kd.int .i64) _ 3 ?hg (N := 9) ?hd (xs := ([1, 2, 2, 3, 4, 8] : List Int)) (inner := [.int .i64 1, .int .i64 2, .int .i64 2, .int .i64 3, .int .i64 4, .int .i64 8]) (ok := fun _ => True) (okp := fun _ => True) ?hr ?hp (fun _ hk => hk) trivial (Below.refl _ _) (Nat.le_refl _) (by simp) ?_;(case hd => rfl);(case hg => rfl);(case hr => first | (go_simp;done) | (go_simp;rfl));(case hp => exact (Reps.one (show Kd.M (Kd.int .i64) _ _ _ 1 [.int .i64 1] from rfl) (Reps.one (show Kd.M (Kd.int .i64) _ _ _ 2 [.int .i64 2] from rfl) (Reps.one (show Kd.M (Kd.int .i64) _ _ _ 2 [.int .i64 2] from rfl) (Reps.one (show Kd.M (Kd.int .i64) _ _ _ 3 [.int .i64 3] from rfl) (Reps.one (show Kd.M (Kd.int .i64) _ _ _ 4 [.int .i64 4] from rfl) (Reps.one (show Kd.M (Kd.int .i64) _ _ _ 8 [.int .i64 8] from rfl) (Reps.none _ _))))))));intro v611 w12 ho13 hb hg_ hnew_;clear hg_ hnew_;(first | rw [← Ny610.out] at ho13 | (simp only [Int.reduceToNat] at ho13;rw [← Ny610.out] at ho13));have n0_ := aM (Kd.R_lower ho13 (keep_size (w := w) (g := g) (row := none) (by exact kK)));have n1_ := aM (IsS91.below (by repeat (first | (with_reducible first | exact HI0.out | apply IsS91.alloc | apply IsS91.drewN | apply IsS91.drew | apply IsS91.set_1 | apply IsS91.set_2) | exact HI0.out)) hb);have n2_ := aM (KeepBut.trans (by exact kK) (KeepBut.of_below hb g none) (.inl rfl));have n3_ := aM (below_step (by exact bB) hb);clear HI0;clear HK;clear HB;have HO612 := n0_;have HI0 := n1_;have HK := n2_;have HB := n3_;clear n0_ n1_ n2_ n3_;clear hb ho13;obtain ⟨Ao14, co14, eo14⟩ := Kd.R_slice HO612.out;subst eo14) | ((with_reducible refine gate_callee (f := 129) rfl ?_);refine goesL_ (some 10) rfl rfl Try.func129 (by kernel_rfl) rfl #[.pointer (some ⟨g, 0, none⟩), .slice Ao14 y610.length co14] rfl mM ?_;(with_reducible refine (spec_l1Cur_among.calls g s0_0 t602 t603 _ _ y610 t613 t614 t615 w0 _ ?side1 ?side2 ?side3 ?side4 ?side5 A10.out).mono ?_);(case side1 => exact sS);(case side2 => exact bB);(case side3 => exact cP (Kd.R_reads' HO612.out).2.2);(case side4 => exact (Kd.R_reads' HO612.out).2.1);(case side5 => exact far_slice (IsS91.own_ne HI0.out HO612.out (by decide)));rintro e w15 ⟨rfl, hi, hb, hk⟩;refine ⟨_, rfl, ?_⟩;have n0_ := aM (Kd.R_mono (Kd.R_keep (IsS91.apart (show IsS91 w0 _ g s0_0 t602 t603 from by exact sS) (by exact rP HO612.out) (by decide)) hk (fun _ h => h.2)) (fun _ h => h.1));have n1_ := aM (KeepBut.trans (by exact kK) hk (.inl rfl));have n2_ := aM (hb);have n3_ := aM (hi);clear HO612;clear HK;clear HB;clear HI0;have HO612 := n0_;have HK := n1_;have HB := n2_;have HI0 := n3_;clear n0_ n1_ n2_ n3_;(try clear hb);(try clear hb2);(try clear hk);(try clear hi)))
 go_ret
 exact ⟨by first | rfl | (simp [errW_none, errW_some] <;> rfl) | (simp [*, errW_none, errW_some] <;> rfl), by exact sS, by exact bB, by exact kK⟩


/-! ### spec_DrawSpreadOf: function 47 -/
def spec_DrawSpreadOf.f (k : Nat) (l0 : List Int) : Option (Int × (List (S119)) × List Int × Int) := (spec_newCur.f l0).bind fun bt617 => ((spec_l1Cur_bigGraph.f k bt617.1 bt617.2.1 bt617.2.2).bind fun bt621 => ((spec_l1Cur_nodes.f k bt617.1 bt621.2.2.1 bt621.2.2.2 bt621.1 bt621.2.1).bind fun bt628 => ((spec_l1Cur_number.f bt617.1 bt628.2.1 bt628.2.2).bind fun bt633 => (some (bt621.1, bt621.2.1, bt628.1, bt633.1)))))
theorem spec_DrawSpreadOf.mono : ∀ a0 k, LeO (spec_DrawSpreadOf.f k a0) (spec_DrawSpreadOf.f (k + 1) a0) := by
 intro a0 k
 unfold spec_DrawSpreadOf.f
 repeat' first
   | (with_reducible exact spec_l1Cur_bigGraph.mono _ _ _ _)
   | (with_reducible exact spec_l1Cur_nodes.mono _ _ _ _ _ _)
   | (with_reducible exact LeO.refl _)
   | (with_reducible exact LeO.none _)
   | (with_reducible refine LeO.ite ?_ ?_)
   | (with_reducible refine LeO.bind ?_ (fun _ => ?_))
   | exact LeO.none _
   | refine LeO.ite ?_ ?_
   | refine LeO.bind ?_ (fun _ => ?_)
def spec_DrawSpreadOf.T3 : Bool × List (List Nat × List Nat) := (true, [([], []), ([], []), ([], []), ([1, 2], [1, 2]), ([], []), ([4, 3], [4]), ([0, 5, 0], [0]), ([3, 6, 0, 1, 2, 3, 6], [3]), ([5, 7, 0, 1, 2, 3, 4, 5, 6, 7], [5])])
def spec_DrawSpreadOf.B3 : List Nat := [0, 0, 0, 6, 0, 30, 63, 127, 255]
theorem spec_DrawSpreadOf.tab3 : rtab .any (opsOf Try.f47 3) = spec_DrawSpreadOf.T3 := by kernel_rfl
theorem spec_DrawSpreadOf.bits3 : waitsOk spec_DrawSpreadOf.T3.2 spec_DrawSpreadOf.B3 = true := by kernel_rfl
set_option maxHeartbeats 8000000 in
set_option maxRecDepth 100000 in
theorem spec_DrawSpreadOf.calls (k : Nat) (A0 : Option Addr) (c0 : Nat) (l0 : List Int) (r1 : Int) (r2 : List (S119)) (r3 : List Int) (r4 : Int) (w : World) (hr0 : Kd.C (Kd.int .u8) w A0 l0.length l0) (hc0 : l0.length ≤ c0) (h : spec_DrawSpreadOf.f k l0 = some (r1, r2, r3, r4)) :
  Calls Try.prog 47 #[.slice A0 l0.length c0] w fun e w' => ∃ v1_ v2_ : Value, e = .returned (.tuple #[.agg #[.int .i64 r1, v1_], v2_, .int .i64 r4]) ∧ Kd.R k119 119 w' w.heap.size (fun _ => True) v1_ r2 ∧ Kd.R (Kd.int .i64) 3 w' w.heap.size (fun _ => True) v2_ r3 ∧ Below w.heap.size w w' := by
 have hu31 := Try.underlying31
 have HR0 := Aside0.mk hr0
 have HC0 := Aside0.mk hc0
 clear hr0 hc0
 have HB := aM (Below.refl w.heap.size w)
 have H : ((spec_newCur.f l0).bind fun bt617 => ((spec_l1Cur_bigGraph.f k bt617.1 bt617.2.1 bt617.2.2).bind fun bt621 => ((spec_l1Cur_nodes.f k bt617.1 bt621.2.2.1 bt621.2.2.2 bt621.1 bt621.2.1).bind fun bt628 => ((spec_l1Cur_number.f bt617.1 bt628.2.1 bt628.2.2).bind fun bt633 => (some (bt621.1, bt621.2.1, bt628.1, bt633.1)))))) = some (r1, r2, r3, r4) := h
 clear h
 replace H : ((spec_l1Cur_bigGraph.f k l0 0 0).bind fun bt621 => ((spec_l1Cur_nodes.f k l0 bt621.2.2.1 bt621.2.2.2 bt621.1 bt621.2.1).bind fun bt628 => ((spec_l1Cur_number.f l0 bt628.2.1 bt628.2.2).bind fun bt633 => (some (bt621.1, bt621.2.1, bt628.1, bt633.1))))) = some (r1, r2, r3, r4) := H
 replace H := Option.bind_eq_some_iff.mp H
 obtain ⟨⟨t621, t622, t625, t626⟩, A30, H⟩ := H
 replace H : ((spec_l1Cur_nodes.f k l0 t625 t626 t621 t622).bind fun bt628 => ((spec_l1Cur_number.f l0 bt628.2.1 bt628.2.2).bind fun bt633 => (some (t621, t622, bt628.1, bt633.1)))) = some (r1, r2, r3, r4) := H
 have A3 := Aside0.mk A30
 clear A30
 replace H := Option.bind_eq_some_iff.mp H
 obtain ⟨⟨t628, t631, t632⟩, A40, H⟩ := H
 replace H : ((spec_l1Cur_number.f l0 t631 t632).bind fun bt633 => (some (t621, t622, t628, bt633.1))) = some (r1, r2, r3, r4) := H
 have A4 := Aside0.mk A40
 clear A40
 replace H := Option.bind_eq_some_iff.mp H
 obtain ⟨⟨t633, t634, t635⟩, A50, H⟩ := H
 replace H : (some (t621, t622, t628, t633)) = some (r1, r2, r3, r4) := H
 have A5 := Aside0.mk A50
 clear A50
 simp only [Option.some.injEq, Prod.mk.injEq] at H
 obtain ⟨rfl, rfl, rfl, rfl⟩ := H
 go_enter Try.func47, Try.ntmps47
 try go_wp2_with (first | ((with_reducible refine gate_dst (N := 2) rfl ?_);refine box_event ?hg (N := 2) ?hd (cs := #[.int .i64 0, .slice none 0 0]) (t := 31) ?hr ?_;(case hd => rfl);(case hg => rfl);(case hr => first | (go_simp;done) | (go_simp;rfl));intro gb616 hg w6 hbox hb;have n0_ := aM (below_step (by exact bB) hb);have n1_ := aM (hbox);have n2_ := aM (sW hg : w.heap.size ≤ gb616);have n3_ := aM (sW hg : w.heap.size ≤ gb616);clear HB;have HB := n0_;have BK616 := n1_;have GW616 := n2_;have GE616 := n3_;clear n0_ n1_ n2_ n3_;clear hb hbox hg) | ((with_reducible refine gate_dst (N := 9) rfl ?_);refine box_event ?hg (N := 9) ?hd (cs := #[.slice A0 l0.length c0, .int .i64 0, .int .u64 0]) (t := 91) ?hr ?_;(case hd => rfl);(case hg => rfl);(case hr => first | (go_simp;done) | (go_simp;rfl));intro g620 hg w7 hbox hb2;have hi : IsS91 w w7 g620 l0 0 0 := ⟨_, _, hbox, by rw [hg];exact below_size (by exact bB), HR0.out⟩;have hb := below_step (by exact bB) hb2;clear hbox hg;have n0_ := aM (blk_below (g := gb616) (o := .cells #[.int .i64 0, .slice none 0 0] 31 (0, 0)) (by exact kP BK616.out) hb2);have n1_ := aM (hb);have n2_ := aM (hi);have n3_ := aM (IsS91.ne_blk hi (blk_below (g := gb616) (o := .cells #[.int .i64 0, .slice none 0 0] 31 (0, 0)) (by exact kP BK616.out) hb2) (by decide));have n4_ := aM (Ne.symm (IsS91.ne_blk hi (blk_below (g := gb616) (o := .cells #[.int .i64 0, .slice none 0 0] 31 (0, 0)) (by exact kP BK616.out) hb2) (by decide)));clear BK616;clear HB;have BK616 := n0_;have HB := n1_;have HI620 := n2_;have NB620_616 := n3_;have NB616_620 := n4_;clear n0_ n1_ n2_ n3_ n4_;(try clear hb);(try clear hb2);(try clear hk);(try clear hi)) | ((with_reducible refine gate_callee (f := 94) rfl ?_);refine goesL_ (some 11) rfl rfl Try.func94 (by kernel_rfl) rfl #[.pointer (some ⟨g620, 0, none⟩)] rfl mM ?_;(with_reducible refine (spec_l1Cur_bigGraph.calls k g620 l0 0 0 t621 t622 t625 t626 w _ ?side1 ?side2 A3.out).mono ?_);(case side1 => exact sS);(case side2 => exact bB);rintro e w8 ⟨v623, rfl, ho0, hi, hb, hk⟩;refine ⟨_, rfl, ?_⟩;have n0_ := aM (KeepBut.blk hk (g' := gb616) (o := .cells #[.int .i64 0, .slice none 0 0] 31 (0, 0)) (by exact kP BK616.out) NB616_620.out (by simp));have n1_ := aM (Kd.R_lower ho0 (below_size (by exact bB)));have n2_ := aM (hb);have n3_ := aM (hi);clear BK616;clear HB;clear HI620;have BK616 := n0_;have HO624 := n1_;have HB := n2_;have HI620 := n3_;clear n0_ n1_ n2_ n3_;(try clear hb);(try clear hb2);(try clear hk);(try clear hi);(try clear ho0)) | ((with_reducible refine gate_dst (N := 6) rfl ?_);refine box_event ?hg (N := 6) ?hd (cs := #[.int .i64 0, .slice none 0 0]) (t := 31) ?hr ?_;(case hd => rfl);(case hg => rfl);(case hr => first | (go_simp;done) | (go_simp;rfl));intro gb627 hg w9 hbox hb;have n0_ := aM (Kd.R_below (by exact rP HO624.out) hb);have n1_ := aM (kB hb BK616.out);have n2_ := aM (IsS91.below (by repeat (first | (with_reducible first | exact HI620.out | apply IsS91.alloc | apply IsS91.drewN | apply IsS91.drew | apply IsS91.set_1 | apply IsS91.set_2 | refine IsS91.far ?_ NB620_616.out _) | exact HI620.out)) hb);have n3_ := aM (below_step (by exact bB) hb);have n4_ := aM (hbox);have n5_ := aM (sW hg : w.heap.size ≤ gb627);have n6_ := aM (sW hg : w.heap.size ≤ gb627);have n7_ := aM (nL hg (kP BK616.out));have n8_ := aM (nG hg (kP BK616.out));have n9_ := aM ((by rw [hg];exact Nat.ne_of_lt (IsS91.lt (show IsS91 w _ g620 l0 t625 t626 from by exact sS)) : g620 ≠ gb627));have n10_ := aM ((by rw [hg];exact Nat.ne_of_gt (IsS91.lt (show IsS91 w _ g620 l0 t625 t626 from by exact sS)) : gb627 ≠ g620));clear HO624;clear BK616;clear HI620;clear HB;have HO624 := n0_;have BK616 := n1_;have HI620 := n2_;have HB := n3_;have BK627 := n4_;have GW627 := n5_;have GE627 := n6_;have NB616_627 := n7_;have NB627_616 := n8_;have NB620_627 := n9_;have NB627_620 := n10_;clear n0_ n1_ n2_ n3_ n4_ n5_ n6_ n7_ n8_ n9_ n10_;clear hb hbox hg;have hnb10 := NB627_616.out;have hnc10 := NB616_627.out;have hnb11 := NB627_620.out;have hnc11 := NB620_627.out;have hcz12_0 := bC0 BK627.out;have hcz12_1 := bC1 BK627.out;have hfz12_0 := blk_frozen BK627.out 0;have hfz12_1 := blk_frozen BK627.out 1;obtain ⟨Ao13, co13, eo13⟩ := Kd.R_slice HO624.out;subst eo13))
 have n0_ : Aside0 (Kd.R k119 119 ((w9.setCell ⟨gb627, 0, none⟩ (.int .i64 t621)).setCell ⟨gb627, 1, none⟩ (.slice Ao13 t622.length co13)) w.heap.size (fun _ => True) (.slice Ao13 t622.length co13) t622) := ⟨by refine rP ?_;exact Kd.R_mono (Kd.R_far (p := ⟨gb627, 1, none⟩) (Kd.R_far (p := ⟨gb627, 0, none⟩) (Kd.R_types HO624.out BK627.out (by decide)) (fun _ hk => hk.2) (.int .i64 t621)) (fun _ hk => hk.2) (.slice Ao13 t622.length co13)) (fun _ hk => trivial)⟩
 have n1_ : Aside0 (((w9.setCell ⟨gb627, 0, none⟩ (.int .i64 t621)).setCell ⟨gb627, 1, none⟩ (.slice Ao13 t622.length co13)).heap[gb616]? = some (.cells #[.int .i64 0, .slice none 0 0] 31 (0, 0))) := ⟨by refine kP ?_;refine blk_far ?_ NB616_627.out _;refine kP ?_;refine blk_far ?_ NB616_627.out _;exact kP BK616.out⟩
 have n2_ : Aside0 (((w9.setCell ⟨gb627, 0, none⟩ (.int .i64 t621)).setCell ⟨gb627, 1, none⟩ (.slice Ao13 t622.length co13)).heap[gb627]? = some (.cells #[.int .i64 t621, .slice Ao13 t622.length co13] 31 (0, 0))) := ⟨by refine kP ?_;refine blk_put (cs := #[.int .i64 t621, .slice none 0 0]) ?_ 1 _ rfl;refine kP ?_;refine blk_put (cs := #[.int .i64 0, .slice none 0 0]) ?_ 0 _ rfl;exact kP BK627.out⟩
 have n3_ : Aside0 (IsS91 w ((w9.setCell ⟨gb627, 0, none⟩ (.int .i64 t621)).setCell ⟨gb627, 1, none⟩ (.slice Ao13 t622.length co13)) g620 l0 t625 t626) := ⟨by exact sS⟩
 have n4_ : Aside0 (Below w.heap.size w ((w9.setCell ⟨gb627, 0, none⟩ (.int .i64 t621)).setCell ⟨gb627, 1, none⟩ (.slice Ao13 t622.length co13))) := ⟨by exact bB⟩
 (try clear HO624)
 (try clear BK616)
 (try clear BK627)
 (try clear HI620)
 (try clear HB)
 generalize ((w9.setCell ⟨gb627, 0, none⟩ (.int .i64 t621)).setCell ⟨gb627, 1, none⟩ (.slice Ao13 t622.length co13)) = w14 at n0_ n1_ n2_ n3_ n4_ ⊢
 have HO624 := n0_
 have BK616 := n1_
 have BK627 := n2_
 have HI620 := n3_
 have HB := n4_
 clear n0_ n1_ n2_ n3_ n4_
 have n0_ := aM (Kd.R_drew HO624.out)
 have n1_ := aM (blk_drew BK616.out)
 have n2_ := aM (blk_drew BK627.out)
 have n3_ := aM (IsS91.drew HI620.out)
 have n4_ := aM (below_drew1 HB.out)
 clear HO624
 clear BK616
 clear BK627
 clear HI620
 clear HB
 have HO624 := n0_
 have BK616 := n1_
 have BK627 := n2_
 have HI620 := n3_
 have HB := n4_
 clear n0_ n1_ n2_ n3_ n4_
 refine start_ (n := 9) (S := fun w' => w'.cell? ⟨gb627, 0, none⟩ = some (.int .i64 t621) ∧ w'.cell? ⟨gb627, 1, none⟩ = some (.slice Ao13 t622.length co13)) (ds := []) #[false,false,false,false,false,false,false,false,false] (by kernel_rfl) rfl rfl ⟨(blk_cell BK627.out 0).trans rfl, (blk_cell BK627.out 1).trans rfl⟩ (fun hHeld => ?_);refine with_tabW spec_DrawSpreadOf.tab3 spec_DrawSpreadOf.bits3 (fun HT_ HW_ => ?_)
 generalize w14.drew = w15 at HO624 BK616 BK627 HI620 HB hHeld ⊢
 refine pure_ (i := 1) (N := some 13) (v := ?_) (a' := ?_) #[false,true,false,false,false,false,false,false,false] rfl rfl (any_of HT_.out (by kernel_rfl)) (fun _ _ _ h => h) (Or.inl ⟨by rfl, ?_⟩) ?_ ?_
 rotate_left
 ·intro w'
  go_simp
  with_reducible rfl
 rotate_left
 ·exact aP
 refine pure_ (i := 4) (N := some 16) (v := ?_) (a' := ?_) #[false,true,false,false,true,false,false,false,false] rfl rfl (any_of HT_.out (by kernel_rfl)) (fun _ _ _ h => h) (Or.inl ⟨by rfl, ?_⟩) ?_ ?_
 rotate_left
 ·intro w'
  go_simp
  with_reducible rfl
 rotate_left
 ·exact aP
 refine take_ (i := 0) (N := some 12) (v := ?_) (a' := ?_) #[true,true,false,false,true,false,false,false,false] rfl rfl (take_ofW HT_.out HW_.out (by kernel_rfl)) (fun _ _ _ h => h) (Or.inl ⟨by rfl, ?_⟩) hHeld ?_ ?_
 rotate_left
 ·rintro w' ⟨s0, s1⟩
  go_simp
  with_reducible rfl
 rotate_left
 ·exact aP
 refine take_ (i := 2) (N := some 14) (v := ?_) (a' := ?_) #[true,true,true,false,true,false,false,false,false] rfl rfl (take_ofW HT_.out HW_.out (by kernel_rfl)) (fun _ _ _ h => h) (Or.inl ⟨by rfl, ?_⟩) hHeld ?_ ?_
 rotate_left
 ·rintro w' ⟨s0, s1⟩
  go_simp
  with_reducible rfl
 rotate_left
 ·exact aP
 refine one_ (i := 3) (N := some 15) #[true,true,true,true,true,false,false,false,false] rfl rfl (one_of HT_.out (by kernel_rfl)) (by decide) (fun K hK => ?_)
 refine goes_ Try.func95 (by kernel_rfl) rfl #[.pointer (some ⟨g620, 0, none⟩), .agg #[.int .i64 t621, .slice Ao13 t622.length co13]] (by rfl) rfl rfl mM ?_
 with_reducible refine (spec_l1Cur_nodes.calls k g620 l0 t625 t626 t621 _ _ t622 t628 t631 t632 w _ ?side1 ?side2 ?side3 ?side4 A4.out).mono ?_
 (case side1 => exact sS)
 (case side2 => exact bB)
 (case side3 => exact Kd.C_foot_own (IsS91.apart (show IsS91 w _ g620 l0 t625 t626 from by exact sS) (by exact rP HO624.out) (by decide)) (fun _ h_ => h_.2))
 (case side4 => exact (Kd.R_reads' HO624.out).2.1)
 rintro e w16 ⟨v629, rfl, ho0, hi, hb, hk⟩
 refine ⟨_, rfl, ?_⟩
 have n0_ := aM (KeepBut.blk hk (g' := gb616) (o := .cells #[.int .i64 0, .slice none 0 0] 31 (0, 0)) (by exact kP BK616.out) NB616_620.out (by simp))
 have n1_ := aM (Kd.R_mono (Kd.R_keep (IsS91.apart (show IsS91 w _ g620 l0 t625 t626 from by exact sS) (by exact rP HO624.out) (by decide)) hk (fun _ h => h.2)) (fun _ h => h.1))
 have n2_ := aM (KeepBut.blk hk (g' := gb627) (o := .cells #[.int .i64 t621, .slice Ao13 t622.length co13] 31 (0, 0)) (by exact kP BK627.out) NB627_620.out (by simp))
 have n3_ := aM (Kd.R_lower ho0 (below_size (by exact bB)))
 have n4_ := aM (hb)
 have n5_ := aM (hi)
 clear BK616
 clear HO624
 clear BK627
 clear HB
 clear HI620
 have BK616 := n0_
 have HO624 := n1_
 have BK627 := n2_
 have HO630 := n3_
 have HB := n4_
 have HI620 := n5_
 clear n0_ n1_ n2_ n3_ n4_ n5_
 (try clear hb)
 (try clear hb2)
 (try clear hk)
 (try clear hi)
 (try clear ho0)
 refine hK.out _ _ ⟨(blk_cell BK627.out 0).trans rfl, (blk_cell BK627.out 1).trans rfl⟩ (fun hHeld => ?_)
 clear hK K
 refine norm_ (a' := ?_) ?_ ?_
 rotate_left
 ·show Act.put _ (some 15) _ = _
  simp only [Act.put, List.setIfInBounds_toArray, List.set_cons_zero, List.set_cons_succ, i64_w, i32_w]
  rfl
 refine one_ (i := 5) (N := some 17) #[true,true,true,true,true,true,false,false,false] rfl rfl (one_of HT_.out (by kernel_rfl)) (by decide) (fun K hK => ?_)
 refine goes_ Try.func96 (by kernel_rfl) rfl #[.pointer (some ⟨g620, 0, none⟩)] (by rfl) rfl rfl mM ?_
 with_reducible refine (spec_l1Cur_number.calls g620 l0 t631 t632 t633 t634 t635 w _ ?side1 ?side2 A5.out).mono ?_
 (case side1 => exact sS)
 (case side2 => exact bB)
 rintro e w17 ⟨rfl, hi, hb, hk⟩
 refine ⟨_, rfl, ?_⟩
 have n0_ := aM (KeepBut.blk hk (g' := gb616) (o := .cells #[.int .i64 0, .slice none 0 0] 31 (0, 0)) (by exact kP BK616.out) NB616_620.out (by simp))
 have n1_ := aM (Kd.R_mono (Kd.R_keep (IsS91.apart (show IsS91 w _ g620 l0 t631 t632 from by exact sS) (by exact rP HO624.out) (by decide)) hk (fun _ h => h.2)) (fun _ h => h.1))
 have n2_ := aM (KeepBut.blk hk (g' := gb627) (o := .cells #[.int .i64 t621, .slice Ao13 t622.length co13] 31 (0, 0)) (by exact kP BK627.out) NB627_620.out (by simp))
 have n3_ := aM (Kd.R_mono (Kd.R_keep (IsS91.apart (show IsS91 w _ g620 l0 t631 t632 from by exact sS) (by exact rP HO630.out) (by decide)) hk (fun _ h => h.2)) (fun _ h => h.1))
 have n4_ := aM (hb)
 have n5_ := aM (hi)
 clear BK616
 clear HO624
 clear BK627
 clear HO630
 clear HB
 clear HI620
 have BK616 := n0_
 have HO624 := n1_
 have BK627 := n2_
 have HO630 := n3_
 have HB := n4_
 have HI620 := n5_
 clear n0_ n1_ n2_ n3_ n4_ n5_
 (try clear hb)
 (try clear hb2)
 (try clear hk)
 (try clear hi)
 refine hK.out _ _ ⟨(blk_cell BK627.out 0).trans rfl, (blk_cell BK627.out 1).trans rfl⟩ (fun hHeld => ?_)
 clear hK K
 refine norm_ (a' := ?_) ?_ ?_
 rotate_left
 ·show Act.put _ (some 17) _ = _
  simp only [Act.put, List.setIfInBounds_toArray, List.set_cons_zero, List.set_cons_succ, i64_w, i32_w]
  rfl
 refine one_ (i := 6) (N := none) #[true,true,true,true,true,true,true,false,false] rfl rfl (one_of HT_.out (by kernel_rfl)) (by decide) (fun K hK => ?_)
 have hs18 : w17.cell? ⟨gb616, 0, none⟩ = some (.int .i64 0) := (blk_cell BK616.out 0).trans rfl
 have hfs18 := blk_frozen BK616.out 0
 have hns18_1 := NB627_616.out
 have hms18_1 := NB616_627.out
 have hs19 : w17.cell? ⟨gb616, 1, none⟩ = some (.slice none 0 0) := (blk_cell BK616.out 1).trans rfl
 have hfs19 := blk_frozen BK616.out 1
 have hns19_1 := NB627_616.out
 have hms19_1 := NB616_627.out
 refine skip_ (w1 := ?_) (by rfl) rfl ?_ ?_
 rotate_left
 ·go_simp
  rfl
 refine hK.out _ _ ⟨((cell_far (p := ⟨gb616, _, none⟩) NB627_616.out _).trans (((cell_far (p := ⟨gb616, _, none⟩) NB627_616.out _).trans (hHeld.1)))), ((cell_far (p := ⟨gb616, _, none⟩) NB627_616.out _).trans (((cell_far (p := ⟨gb616, _, none⟩) NB627_616.out _).trans (hHeld.2))))⟩ (fun hHeld => ?_)
 clear hK K
 refine pure_ (i := 7) (N := some 3) (v := ?_) (a' := ?_) #[true,true,true,true,true,true,true,true,false] rfl rfl (any_of HT_.out (by kernel_rfl)) (fun _ _ _ h => h) (Or.inl ⟨by rfl, ?_⟩) ?_ ?_
 rotate_left
 ·intro w'
  go_simp
  with_reducible rfl
 rotate_left
 ·exact aP
 refine pure_ (i := 8) (N := some 4) (v := ?_) (a' := ?_) #[true,true,true,true,true,true,true,true,true] rfl rfl (any_of HT_.out (by kernel_rfl)) (fun _ _ _ h => h) (Or.inl ⟨by rfl, ?_⟩) ?_ ?_
 rotate_left
 ·intro w'
  go_simp
  with_reducible rfl
 rotate_left
 ·exact aP
 refine done_ (done_of HT_.out (by kernel_rfl)) ?_
 try go_wp2
 refine bodyPost_ret (results_ctt rfl _ _ gb616 31 #[.int .i64 t621, .slice Ao13 t622.length co13] (0, 0) _ rfl (by refine kP ?_;refine blk_put (cs := #[.int .i64 t621, .slice none 0 0]) ?_ 1 _ rfl;refine kP ?_;refine blk_put (cs := #[.int .i64 0, .slice none 0 0]) ?_ 0 _ rfl;exact kP BK616.out) Try.underlying31 rfl (by kernel_rfl)) rfl ?_
 exact ⟨_, _, by first | rfl | (simp [errW_none, errW_some] <;> rfl) | (simp [*, errW_none, errW_some] <;> rfl), by refine rP ?_;exact Kd.R_mono (Kd.R_far (p := ⟨gb616, 1, none⟩) (Kd.R_far (p := ⟨gb616, 0, none⟩) (Kd.R_types HO624.out BK616.out (by decide)) (fun _ hk => hk.2) (.int .i64 t621)) (fun _ hk => hk.2) (.slice Ao13 t622.length co13)) (fun _ hk => trivial), by refine rP ?_;exact Kd.R_mono (Kd.R_far (p := ⟨gb616, 1, none⟩) (Kd.R_far (p := ⟨gb616, 0, none⟩) (Kd.R_types HO630.out BK616.out (by decide)) (fun _ hk => hk.2) (.int .i64 t621)) (fun _ hk => hk.2) (.slice Ao13 t622.length co13)) (fun _ hk => trivial), by exact bB⟩


/-! ### bits_OnesCount64: function 149 -/
def bits_OnesCount64.f (a0 : Int) : Option (Int) := some (Go.bits .and .i64 (wrap64 (IntKind.u64.wrap ((IntKind.u64.wrap ((IntKind.u64.wrap ((Go.bits .and .u64 (IntKind.u64.wrap (((IntKind.u64.wrap ((Go.bits .and .u64 ((IntKind.u64.wrap ((Go.bits .and .u64 (a0 / 2) 6148914691236517205) + (Go.bits .and .u64 a0 6148914691236517205))) / 4) 3689348814741910323) + (Go.bits .and .u64 (IntKind.u64.wrap ((Go.bits .and .u64 (a0 / 2) 6148914691236517205) + (Go.bits .and .u64 a0 6148914691236517205))) 3689348814741910323))) / 16) + (IntKind.u64.wrap ((Go.bits .and .u64 ((IntKind.u64.wrap ((Go.bits .and .u64 (a0 / 2) 6148914691236517205) + (Go.bits .and .u64 a0 6148914691236517205))) / 4) 3689348814741910323) + (Go.bits .and .u64 (IntKind.u64.wrap ((Go.bits .and .u64 (a0 / 2) 6148914691236517205) + (Go.bits .and .u64 a0 6148914691236517205))) 3689348814741910323))))) 1085102592571150095) + ((Go.bits .and .u64 (IntKind.u64.wrap (((IntKind.u64.wrap ((Go.bits .and .u64 ((IntKind.u64.wrap ((Go.bits .and .u64 (a0 / 2) 6148914691236517205) + (Go.bits .and .u64 a0 6148914691236517205))) / 4) 3689348814741910323) + (Go.bits .and .u64 (IntKind.u64.wrap ((Go.bits .and .u64 (a0 / 2) 6148914691236517205) + (Go.bits .and .u64 a0 6148914691236517205))) 3689348814741910323))) / 16) + (IntKind.u64.wrap ((Go.bits .and .u64 ((IntKind.u64.wrap ((Go.bits .and .u64 (a0 / 2) 6148914691236517205) + (Go.bits .and .u64 a0 6148914691236517205))) / 4) 3689348814741910323) + (Go.bits .and .u64 (IntKind.u64.wrap ((Go.bits .and .u64 (a0 / 2) 6148914691236517205) + (Go.bits .and .u64 a0 6148914691236517205))) 3689348814741910323))))) 1085102592571150095) / 256))) + ((IntKind.u64.wrap ((Go.bits .and .u64 (IntKind.u64.wrap (((IntKind.u64.wrap ((Go.bits .and .u64 ((IntKind.u64.wrap ((Go.bits .and .u64 (a0 / 2) 6148914691236517205) + (Go.bits .and .u64 a0 6148914691236517205))) / 4) 3689348814741910323) + (Go.bits .and .u64 (IntKind.u64.wrap ((Go.bits .and .u64 (a0 / 2) 6148914691236517205) + (Go.bits .and .u64 a0 6148914691236517205))) 3689348814741910323))) / 16) + (IntKind.u64.wrap ((Go.bits .and .u64 ((IntKind.u64.wrap ((Go.bits .and .u64 (a0 / 2) 6148914691236517205) + (Go.bits .and .u64 a0 6148914691236517205))) / 4) 3689348814741910323) + (Go.bits .and .u64 (IntKind.u64.wrap ((Go.bits .and .u64 (a0 / 2) 6148914691236517205) + (Go.bits .and .u64 a0 6148914691236517205))) 3689348814741910323))))) 1085102592571150095) + ((Go.bits .and .u64 (IntKind.u64.wrap (((IntKind.u64.wrap ((Go.bits .and .u64 ((IntKind.u64.wrap ((Go.bits .and .u64 (a0 / 2) 6148914691236517205) + (Go.bits .and .u64 a0 6148914691236517205))) / 4) 3689348814741910323) + (Go.bits .and .u64 (IntKind.u64.wrap ((Go.bits .and .u64 (a0 / 2) 6148914691236517205) + (Go.bits .and .u64 a0 6148914691236517205))) 3689348814741910323))) / 16) + (IntKind.u64.wrap ((Go.bits .and .u64 ((IntKind.u64.wrap ((Go.bits .and .u64 (a0 / 2) 6148914691236517205) + (Go.bits .and .u64 a0 6148914691236517205))) / 4) 3689348814741910323) + (Go.bits .and .u64 (IntKind.u64.wrap ((Go.bits .and .u64 (a0 / 2) 6148914691236517205) + (Go.bits .and .u64 a0 6148914691236517205))) 3689348814741910323))))) 1085102592571150095) / 256))) / 65536))) + ((IntKind.u64.wrap ((IntKind.u64.wrap ((Go.bits .and .u64 (IntKind.u64.wrap (((IntKind.u64.wrap ((Go.bits .and .u64 ((IntKind.u64.wrap ((Go.bits .and .u64 (a0 / 2) 6148914691236517205) + (Go.bits .and .u64 a0 6148914691236517205))) / 4) 3689348814741910323) + (Go.bits .and .u64 (IntKind.u64.wrap ((Go.bits .and .u64 (a0 / 2) 6148914691236517205) + (Go.bits .and .u64 a0 6148914691236517205))) 3689348814741910323))) / 16) + (IntKind.u64.wrap ((Go.bits .and .u64 ((IntKind.u64.wrap ((Go.bits .and .u64 (a0 / 2) 6148914691236517205) + (Go.bits .and .u64 a0 6148914691236517205))) / 4) 3689348814741910323) + (Go.bits .and .u64 (IntKind.u64.wrap ((Go.bits .and .u64 (a0 / 2) 6148914691236517205) + (Go.bits .and .u64 a0 6148914691236517205))) 3689348814741910323))))) 1085102592571150095) + ((Go.bits .and .u64 (IntKind.u64.wrap (((IntKind.u64.wrap ((Go.bits .and .u64 ((IntKind.u64.wrap ((Go.bits .and .u64 (a0 / 2) 6148914691236517205) + (Go.bits .and .u64 a0 6148914691236517205))) / 4) 3689348814741910323) + (Go.bits .and .u64 (IntKind.u64.wrap ((Go.bits .and .u64 (a0 / 2) 6148914691236517205) + (Go.bits .and .u64 a0 6148914691236517205))) 3689348814741910323))) / 16) + (IntKind.u64.wrap ((Go.bits .and .u64 ((IntKind.u64.wrap ((Go.bits .and .u64 (a0 / 2) 6148914691236517205) + (Go.bits .and .u64 a0 6148914691236517205))) / 4) 3689348814741910323) + (Go.bits .and .u64 (IntKind.u64.wrap ((Go.bits .and .u64 (a0 / 2) 6148914691236517205) + (Go.bits .and .u64 a0 6148914691236517205))) 3689348814741910323))))) 1085102592571150095) / 256))) + ((IntKind.u64.wrap ((Go.bits .and .u64 (IntKind.u64.wrap (((IntKind.u64.wrap ((Go.bits .and .u64 ((IntKind.u64.wrap ((Go.bits .and .u64 (a0 / 2) 6148914691236517205) + (Go.bits .and .u64 a0 6148914691236517205))) / 4) 3689348814741910323) + (Go.bits .and .u64 (IntKind.u64.wrap ((Go.bits .and .u64 (a0 / 2) 6148914691236517205) + (Go.bits .and .u64 a0 6148914691236517205))) 3689348814741910323))) / 16) + (IntKind.u64.wrap ((Go.bits .and .u64 ((IntKind.u64.wrap ((Go.bits .and .u64 (a0 / 2) 6148914691236517205) + (Go.bits .and .u64 a0 6148914691236517205))) / 4) 3689348814741910323) + (Go.bits .and .u64 (IntKind.u64.wrap ((Go.bits .and .u64 (a0 / 2) 6148914691236517205) + (Go.bits .and .u64 a0 6148914691236517205))) 3689348814741910323))))) 1085102592571150095) + ((Go.bits .and .u64 (IntKind.u64.wrap (((IntKind.u64.wrap ((Go.bits .and .u64 ((IntKind.u64.wrap ((Go.bits .and .u64 (a0 / 2) 6148914691236517205) + (Go.bits .and .u64 a0 6148914691236517205))) / 4) 3689348814741910323) + (Go.bits .and .u64 (IntKind.u64.wrap ((Go.bits .and .u64 (a0 / 2) 6148914691236517205) + (Go.bits .and .u64 a0 6148914691236517205))) 3689348814741910323))) / 16) + (IntKind.u64.wrap ((Go.bits .and .u64 ((IntKind.u64.wrap ((Go.bits .and .u64 (a0 / 2) 6148914691236517205) + (Go.bits .and .u64 a0 6148914691236517205))) / 4) 3689348814741910323) + (Go.bits .and .u64 (IntKind.u64.wrap ((Go.bits .and .u64 (a0 / 2) 6148914691236517205) + (Go.bits .and .u64 a0 6148914691236517205))) 3689348814741910323))))) 1085102592571150095) / 256))) / 65536))) / 4294967296)))) 127)
set_option maxHeartbeats 8000000 in
set_option maxRecDepth 100000 in
theorem bits_OnesCount64.calls (a0 : Int) (r : Int) (w : World) (h : bits_OnesCount64.f a0 = some r) :
  Calls Try.prog 149 #[.int .u64 a0] w fun e w' => e = .returned (.int .i64 r) ∧ Drawn0 w w' := by
 have H := h
 unfold bits_OnesCount64.f at H
 clear h
 obtain rfl := Option.some.inj H
 go_enter Try.func149, Try.ntmps149
 go_wp2
 go_ret
 exact ⟨by first | rfl | (simp;done) | (simp [*];done), by repeat (first | exact Drawn0.refl _ | apply Drawn0.step)⟩


/-! ### bits_OnesCount: function 103 -/
def bits_OnesCount.f (a0 : Int) : Option (Int) := (bits_OnesCount64.f a0).bind fun t636 => (some t636)
set_option maxHeartbeats 8000000 in
set_option maxRecDepth 100000 in
theorem bits_OnesCount.calls (a0 : Int) (r : Int) (w : World) (h : bits_OnesCount.f a0 = some r) :
  Calls Try.prog 103 #[.int .u64 a0] w fun e w' => e = .returned (.int .i64 r) ∧ Drawn0 w w' := by
 have H : ((bits_OnesCount64.f a0).bind fun t636 => (some t636)) = some r := h
 clear h
 replace H := Option.bind_eq_some_iff.mp H
 obtain ⟨t636, A20, H⟩ := H
 replace H : (some t636) = some r := H
 have A2 := Aside0.mk A20
 clear A20
 obtain rfl := Option.some.inj H
 go_enter Try.func103, Try.ntmps103
 go_wp2_with (first | ((with_reducible refine gate_callee (f := 149) rfl ?_);refine goesL_ (some 7) rfl rfl Try.func149 (by kernel_rfl) rfl #[.int .u64 a0] rfl mM ?_;(with_reducible refine (bits_OnesCount64.calls a0 t636 _ A2.out).mono ?_);rintro e w' ⟨rfl, ⟨nd, rfl⟩⟩;refine ⟨_, rfl, ?_⟩))
 go_ret
 exact ⟨by first | rfl | (simp;done) | (simp [*];done), by repeat (first | exact Drawn0.refl _ | apply Drawn0.step)⟩


/-! ### impl_net_spread: function 97 -/
mutual
def impl_net_spread.l0 : Nat → Int → Int → List Int → Option (Int)
 | 0, _, _, _ => none
 | k + 1, x1, x2, x638000 => impl_net_spread.l1 k x1 x2 x1 x638000 (x638000.length : Int) 0 x638000
def impl_net_spread.l1 : Nat → Int → Int → Int → List Int → Int → Int → List Int → Option (Int)
 | 0, _, _, _, _, _, _, _ => none
 | k + 1, x1, x2, x7, x12, x13, x14, x638000 => if x14 < x13 then (if 0 ≤ x14 then (if x14 < (x12.length : Int) then ((bits_OnesCount.f (IntKind.u64.wrap (Go.bits .and .i64 (rd x12 x14) x1))).bind fun t639 => (if t639 ≥ x2 then (impl_net_spread.l1 k x1 x2 (Go.bits .or .i64 x7 (shl .i64 1 x14)) x12 x13 (wrap64 (x14 + 1)) x638000) else (impl_net_spread.l1 k x1 x2 x7 x12 x13 (wrap64 (x14 + 1)) x638000))) else (none)) else (none)) else (if x7 = x1 then (some x1) else (impl_net_spread.l0 k x7 x2 x638000))
end
def impl_net_spread.f (k : Nat) (l0_0 : List Int) (a1 : Int) (a2 : Int) : Option (Int) := impl_net_spread.l0 k a1 a2 l0_0
theorem impl_net_spread.mono_l : ∀ k, (∀ y0 y1 y2, LeO (impl_net_spread.l0 k y0 y1 y2) (impl_net_spread.l0 (k + 1) y0 y1 y2)) ∧ (∀ y0 y1 y2 y3 y4 y5 y6, LeO (impl_net_spread.l1 k y0 y1 y2 y3 y4 y5 y6) (impl_net_spread.l1 (k + 1) y0 y1 y2 y3 y4 y5 y6))
 | 0 => ⟨fun _ _ _ r h => by simp [impl_net_spread.l0] at h, fun _ _ _ _ _ _ _ r h => by simp [impl_net_spread.l1] at h⟩
 | k + 1 => by
  obtain ⟨ih0, ih1⟩ := impl_net_spread.mono_l k
  refine ⟨?_, ?_⟩
  ·intro y0 y1 y2
   unfold impl_net_spread.l0
   repeat' first
   | (with_reducible exact ih0 _ _ _)
   | (with_reducible exact ih1 _ _ _ _ _ _ _)
   | (with_reducible exact LeO.refl _)
   | (with_reducible exact LeO.none _)
   | (with_reducible refine LeO.ite ?_ ?_)
   | (with_reducible refine LeO.bind ?_ (fun _ => ?_))
   | exact LeO.none _
   | refine LeO.ite ?_ ?_
   | refine LeO.bind ?_ (fun _ => ?_)
  ·intro y0 y1 y2 y3 y4 y5 y6
   unfold impl_net_spread.l1
   repeat' first
   | (with_reducible exact ih0 _ _ _)
   | (with_reducible exact ih1 _ _ _ _ _ _ _)
   | (with_reducible exact LeO.refl _)
   | (with_reducible exact LeO.none _)
   | (with_reducible refine LeO.ite ?_ ?_)
   | (with_reducible refine LeO.bind ?_ (fun _ => ?_))
   | exact LeO.none _
   | refine LeO.ite ?_ ?_
   | refine LeO.bind ?_ (fun _ => ?_)
theorem impl_net_spread.mono : ∀ a0 a1 a2 k, LeO (impl_net_spread.f k a0 a1 a2) (impl_net_spread.f (k + 1) a0 a1 a2) := by
 intro a0 a1 a2 k
 obtain ⟨ih0, ih1⟩ := impl_net_spread.mono_l k
 unfold impl_net_spread.f
 repeat' first
   | (with_reducible exact ih0 _ _ _)
   | (with_reducible exact ih1 _ _ _ _ _ _ _)
   | (with_reducible exact LeO.refl _)
   | (with_reducible exact LeO.none _)
   | (with_reducible refine LeO.ite ?_ ?_)
   | (with_reducible refine LeO.bind ?_ (fun _ => ?_))
   | exact LeO.none _
   | refine LeO.ite ?_ ?_
   | refine LeO.bind ?_ (fun _ => ?_)
set_option maxHeartbeats 8000000 in
set_option maxRecDepth 100000 in
theorem impl_net_spread.calls (k : Nat) (A0_0 : Option Addr) (c0_0 : Nat) (l0_0 : List Int) (a1 : Int) (a2 : Int) (r : Int) (w : World) (hr0_0 : Kd.C (Kd.int .i64) w A0_0 l0_0.length l0_0) (hc0_0 : l0_0.length ≤ c0_0) (h : impl_net_spread.f k l0_0 a1 a2 = some r) :
  Calls Try.prog 97 #[.agg #[.slice A0_0 l0_0.length c0_0], .int .i64 a1, .int .i64 a2] w fun e w' => e = .returned (.int .i64 r) ∧ Below w.heap.size w w' := by
 have hu80 := Try.underlying80
 have HR0_0 := Aside0.mk hr0_0
 have HC0_0 := Aside0.mk hc0_0
 clear hr0_0 hc0_0
 have HB := aM (Below.refl w.heap.size w)
 have H : (impl_net_spread.l0 k a1 a2 l0_0) = some r := h
 clear h
 have H' := Aside0.mk H
 clear H
 go_enter Try.func97, Try.ntmps97
 go_wp2_with (first | ((with_reducible refine gate_dst (N := 3) rfl ?_);refine box_event ?hg (N := 3) ?hd (cs := #[.slice A0_0 l0_0.length c0_0]) (t := 80) ?hr ?_;(case hd => rfl);(case hg => rfl);(case hr => first | (go_simp;done) | (go_simp;rfl));intro gb637 hg w4 hbox hb;have n0_ := aM (below_step (by exact bB) hb);have n1_ := aM (hbox);have n2_ := aM (sW hg : w.heap.size ≤ gb637);have n3_ := aM (sW hg : w.heap.size ≤ gb637);clear HB;have HB := n0_;have BK637 := n1_;have GW637 := n2_;have GE637 := n3_;clear n0_ n1_ n2_ n3_;clear hb hbox hg))
 go_loopg [1] k (fun kq v1 w' => ∃ (x1_1 : Int), v1 = .int .i64 x1_1 ∧ Aside0 (impl_net_spread.l0 kq x1_1 a2 l0_0 = some r) ∧ Aside0 (kq ≤ k) ∧ Aside0 (w'.heap[gb637]? = some (.cells #[(.slice A0_0 l0_0.length c0_0)] 80 (0, 0))) ∧ Aside0 (Below w.heap.size w w'))
 case atStart => exact ⟨(a1), (by first | rfl | (simp;done) | (simp [*];done)), H', ⟨Nat.le_refl _⟩, ⟨by exact kP BK637.out⟩, ⟨by exact bB⟩⟩
 case round =>
  clear H'
  try clear p2
  obtain ⟨x1_1, rfl, HA, HK1, BK637, HB⟩ := hrel
  cases gk with
  | zero => exact absurd HA.out (by simp [impl_net_spread.l0])
  | succ k1 =>
   have H := HA.out
   clear HA
   simp only [impl_net_spread.l0] at H
   have H' := Aside0.mk H
   clear H
   have hcz5_0 := bC0 BK637.out
   have hfz5_0 := blk_frozen BK637.out 0
   go_wp2
   go_loopg [7, 14] k1 (fun kq v7 v14 w' => ∃ (x7_2 : Int) (x14_2 : Int), v7 = .int .i64 x7_2 ∧ v14 = .int .i64 x14_2 ∧ Aside0 (impl_net_spread.l1 kq x1_1 a2 x7_2 l0_0 (l0_0.length : Int) x14_2 l0_0 = some r) ∧ Aside0 (kq ≤ k1) ∧ Aside0 (w'.heap[gb637]? = some (.cells #[(.slice A0_0 l0_0.length c0_0)] 80 (0, 0))) ∧ Aside0 (Below w.heap.size w w'))
   case atStart => exact ⟨(x1_1), (0), (by first | rfl | (simp;done) | (simp [*];done)), (by first | rfl | (simp;done) | (simp [*];done)), H', ⟨Nat.le_refl _⟩, ⟨by exact kP BK637.out⟩, ⟨by exact bB⟩⟩
   case round =>
    clear H'
    try clear p2
    try clear hcz5_0
    try clear hfz5_0
    try clear p2
    obtain ⟨x7_2, x14_2, rfl, rfl, HA, HK2, BK637, HB⟩ := hrel
    cases gk with
    | zero => exact absurd HA.out (by simp [impl_net_spread.l1])
    | succ k2 =>
     have H := HA.out
     clear HA
     simp only [impl_net_spread.l1] at H
     by_cases c6 : x14_2 < (l0_0.length : Int)
     rotate_left
     ·rw [if_neg c6] at H
      have c6b0 : decide (x14_2 < (l0_0.length : Int)) = false := decide_eq_false c6
      clear c6
      by_cases c13 : x7_2 = x1_1
      ·rw [if_pos c13] at H
       have c13b0 : (x7_2 == x1_1) = true := beq_iff_eq.mpr c13
       have c13b1 : (x7_2 != x1_1) = false := bne_eq_false_iff_eq.mpr c13
       clear c13
       obtain rfl := Option.some.inj H
       go_wp2
       go_ret
       exact ⟨by first | rfl | (simp [errW_none, errW_some] <;> rfl) | (simp [*, errW_none, errW_some] <;> rfl), by exact bB⟩
      rw [if_neg c13] at H
      have c13b0 : (x7_2 == x1_1) = false := beq_eq_false_iff_ne.mpr c13
      have c13b1 : (x7_2 != x1_1) = true := bne_iff_ne.mpr c13
      have H' := Aside0.mk H
      clear H
      go_wp2
      go_roundg k2
      case measure => have := HK1.out;have := HK2.out;omega
      case rel => exact ⟨(x7_2), (by first | rfl | (simp;done) | (simp [*];done)), H', ⟨by have := HK1.out;have := HK2.out;omega⟩, ⟨by exact kP BK637.out⟩, ⟨by exact bB⟩⟩
     rw [if_pos c6] at H
     have c6b0 : decide (x14_2 < (l0_0.length : Int)) = true := decide_eq_true c6
     clear c6
     by_cases c7 : 0 ≤ x14_2
     rotate_left
     ·rw [if_neg c7] at H
      exact absurd H (by simp)
     rw [if_pos c7] at H
     have c7b0 : decide (0 ≤ x14_2) = true := decide_eq_true c7
     clear c7
     by_cases c8 : x14_2 < (l0_0.length : Int)
     rotate_left
     ·rw [if_neg c8] at H
      exact absurd H (by simp)
     rw [if_pos c8] at H
     have c8b0 : decide (x14_2 < (l0_0.length : Int)) = true := decide_eq_true c8
     clear c8
     replace H := Option.bind_eq_some_iff.mp H
     obtain ⟨t639, A90, H⟩ := H
     replace H : (if t639 ≥ a2 then (impl_net_spread.l1 k2 x1_1 a2 (Go.bits .or .i64 x7_2 (shl .i64 1 x14_2)) l0_0 (l0_0.length : Int) (wrap64 (x14_2 + 1)) l0_0) else (impl_net_spread.l1 k2 x1_1 a2 x7_2 l0_0 (l0_0.length : Int) (wrap64 (x14_2 + 1)) l0_0)) = some r := H
     have A9 := Aside0.mk A90
     clear A90
     by_cases c10 : t639 ≥ a2
     rotate_left
     ·rw [if_neg c10] at H
      have c10b0 : decide (a2 ≤ t639) = false := decide_eq_false c10
      clear c10
      have H' := Aside0.mk H
      clear H
      have p638 : 0 ≤ (x14_2 : Int) := oA
      have q638 : x14_2 < (l0_0.length : Int) := oA
      obtain ⟨ad638, e638, hx638_0⟩ := Kd.at_int HR0_0.out x14_2 p638 q638
      cases e638
      replace hx638_0 := (HB.out.cell (World.block_lt_of_cell? w _ hx638_0)).trans hx638_0
      replace p638 := eq_true p638
      replace q638 := eq_true q638
      go_wp2_with (first | ((with_reducible refine gate_callee (f := 103) rfl ?_);refine goesL_ (some 23) rfl rfl Try.func103 (by kernel_rfl) rfl #[.int .u64 (IntKind.u64.wrap (Go.bits .and .i64 (rd l0_0 x14_2) x1_1))] rfl mM ?_;(with_reducible refine (bits_OnesCount.calls (IntKind.u64.wrap (Go.bits .and .i64 (rd l0_0 x14_2) x1_1)) t639 _ A9.out).mono ?_);rintro e w' ⟨rfl, ⟨nd, rfl⟩⟩;refine ⟨_, rfl, ?_⟩))
      go_roundg k2
      case measure => have := HK1.out;have := HK2.out;omega
      case rel => exact ⟨(x7_2), (wrap64 (x14_2 + 1)), (by first | rfl | (simp;done) | (simp [*];done)), (by first | rfl | (simp;done) | (simp [*];done)), H', ⟨by have := HK1.out;have := HK2.out;omega⟩, ⟨by exact kP BK637.out⟩, ⟨by exact bB⟩⟩
     rw [if_pos c10] at H
     have c10b0 : decide (a2 ≤ t639) = true := decide_eq_true c10
     clear c10
     have c11b0 := eq_true (oA : 0 ≤ x14_2)
     obtain ⟨ji12, hji12⟩ : ∃ j_ : Int, (shl .i64 1 x14_2) = j_ := ⟨_, rfl⟩
     replace H : (impl_net_spread.l1 k2 x1_1 a2 (Go.bits .or .i64 x7_2 (ji12)) l0_0 (l0_0.length : Int) (wrap64 (x14_2 + 1)) l0_0) = some r := by first | (rw [hji12] at H;exact H) | (simp only [hji12] at H ⊢;exact H)
     (try rw [hji12] at A9)
     have hji12_ : (IntKind.i64.wrap (1 * 2 ^ min x14_2.toNat 64)) = ji12 := hji12
     have hji12z : x14_2 ≤ 64 → (IntKind.i64.wrap (1 * 2 ^ x14_2.toNat)) = ji12 := shl_small hji12
     have hji12u : (IntKind.i64.wrap (2 ^ min x14_2.toNat 64)) = ji12 := by have h_ := hji12_;rw [Int.one_mul] at h_;exact h_
     have hji12v : x14_2 ≤ 64 → (IntKind.i64.wrap (2 ^ x14_2.toNat)) = ji12 := fun hle_ => by have h_ := hji12z hle_;rw [Int.one_mul] at h_;exact h_
     have hji12y : (wrap64 (1 * 2 ^ min x14_2.toNat 64)) = ji12 := (i64_w _).symm.trans hji12_
     have hji12x : x14_2 ≤ 64 → (wrap64 (1 * 2 ^ x14_2.toNat)) = ji12 := fun h_ => (i64_w _).symm.trans (hji12z h_)
     have H' := Aside0.mk H
     clear H
     have p638 : 0 ≤ (x14_2 : Int) := oA
     have q638 : x14_2 < (l0_0.length : Int) := oA
     obtain ⟨ad638, e638, hx638_0⟩ := Kd.at_int HR0_0.out x14_2 p638 q638
     cases e638
     replace hx638_0 := (HB.out.cell (World.block_lt_of_cell? w _ hx638_0)).trans hx638_0
     replace p638 := eq_true p638
     replace q638 := eq_true q638
     go_wp2_with (first | ((with_reducible refine gate_callee (f := 103) rfl ?_);refine goesL_ (some 23) rfl rfl Try.func103 (by kernel_rfl) rfl #[.int .u64 (IntKind.u64.wrap (Go.bits .and .i64 (rd l0_0 x14_2) x1_1))] rfl mM ?_;(with_reducible refine (bits_OnesCount.calls (IntKind.u64.wrap (Go.bits .and .i64 (rd l0_0 x14_2) x1_1)) t639 _ A9.out).mono ?_);rintro e w' ⟨rfl, ⟨nd, rfl⟩⟩;refine ⟨_, rfl, ?_⟩))
     go_roundg k2
     case measure => have := HK1.out;have := HK2.out;omega
     case rel => exact ⟨(Go.bits .or .i64 x7_2 (ji12)), (wrap64 (x14_2 + 1)), (by first | rfl | (simp;done) | (simp only [← hji12] <;> (first | rfl | simp)) | (simp [*];done)), (by first | rfl | (simp;done) | (simp [*];done)), H', ⟨by have := HK1.out;have := HK2.out;omega⟩, ⟨by exact kP BK637.out⟩, ⟨by exact bB⟩⟩


/-! ### impl_SpreadOf: function 48 -/
def impl_SpreadOf.j0 : Nat → List Int → Int → Bool → Int → List (S119) → Option (List Int × Bool)
 | 0, _, _, _, _, _ => none
 | k + 1, x1, x2, x16, x641000, x641001 => if x16 = true then (some (([] : List Int), false)) else ((impl_netOf.f x641000 x641001).bind fun t643 => ((impl_maskOf.f k x1).bind fun t646 => ((impl_net_spread.f k t643 t646 x2).bind fun t647 => ((impl_setOf.f k t647).bind fun t648 => (some (t648, true))))))
def impl_SpreadOf.f (k : Nat) (a0_0 : Int) (l0_1 : List (S119)) (l1 : List Int) (a2 : Int) : Option (List Int × Bool) := (impl_isSet.f k a0_0 l0_1 l1).bind fun t641 => (if t641 = true then ((impl_within.f a2 1 8).bind fun t642 => (impl_SpreadOf.j0 k l1 a2 (!t642) a0_0 l0_1)) else (impl_SpreadOf.j0 k l1 a2 true a0_0 l0_1))
theorem impl_SpreadOf.mono_l : ∀ k, (∀ y0 y1 y2 y3 y4, LeO (impl_SpreadOf.j0 k y0 y1 y2 y3 y4) (impl_SpreadOf.j0 (k + 1) y0 y1 y2 y3 y4))
 | 0 => fun _ _ _ _ _ r h => by simp [impl_SpreadOf.j0] at h
 | k + 1 => by
  have ih0 := impl_SpreadOf.mono_l k
  ·intro y0 y1 y2 y3 y4
   unfold impl_SpreadOf.j0
   repeat' first
   | (with_reducible exact ih0 _ _ _ _ _)
   | (with_reducible exact impl_isSet.mono _ _ _ _)
   | (with_reducible exact impl_maskOf.mono _ _)
   | (with_reducible exact impl_net_spread.mono _ _ _ _)
   | (with_reducible exact impl_setOf.mono _ _)
   | (with_reducible exact LeO.refl _)
   | (with_reducible exact LeO.none _)
   | (with_reducible refine LeO.ite ?_ ?_)
   | (with_reducible refine LeO.bind ?_ (fun _ => ?_))
   | exact LeO.none _
   | refine LeO.ite ?_ ?_
   | refine LeO.bind ?_ (fun _ => ?_)
theorem impl_SpreadOf.mono : ∀ a0 a1 a2 a3 k, LeO (impl_SpreadOf.f k a0 a1 a2 a3) (impl_SpreadOf.f (k + 1) a0 a1 a2 a3) := by
 intro a0 a1 a2 a3 k
 have ih0 := impl_SpreadOf.mono_l k
 unfold impl_SpreadOf.f
 repeat' first
   | (with_reducible exact ih0 _ _ _ _ _)
   | (with_reducible exact impl_isSet.mono _ _ _ _)
   | (with_reducible exact impl_maskOf.mono _ _)
   | (with_reducible exact impl_net_spread.mono _ _ _ _)
   | (with_reducible exact impl_setOf.mono _ _)
   | (with_reducible exact LeO.refl _)
   | (with_reducible exact LeO.none _)
   | (with_reducible refine LeO.ite ?_ ?_)
   | (with_reducible refine LeO.bind ?_ (fun _ => ?_))
   | exact LeO.none _
   | refine LeO.ite ?_ ?_
   | refine LeO.bind ?_ (fun _ => ?_)
set_option maxHeartbeats 8000000 in
set_option maxRecDepth 100000 in
theorem impl_SpreadOf.calls (k : Nat) (a0_0 : Int) (A0_1 : Option Addr) (c0_1 : Nat) (l0_1 : List (S119)) (A1 : Option Addr) (c1 : Nat) (l1 : List Int) (a2 : Int) (r1 : List Int) (r2 : Bool) (w : World) (hr0_1 : Kd.C k119 w A0_1 l0_1.length l0_1) (hc0_1 : l0_1.length ≤ c0_1) (hr1 : Kd.C (Kd.int .i64) w A1 l1.length l1) (hc1 : l1.length ≤ c1) (h : impl_SpreadOf.f k a0_0 l0_1 l1 a2 = some (r1, r2)) :
  Calls Try.prog 48 #[.agg #[.int .i64 a0_0, .slice A0_1 l0_1.length c0_1], .slice A1 l1.length c1, .int .i64 a2] w fun e w' => ∃ v0_ : Value, e = .returned (.tuple #[v0_, .bool r2]) ∧ Kd.R (Kd.int .i64) 3 w' w.heap.size (fun _ => True) v0_ r1 ∧ Below w.heap.size w w' := by
 have hu31 := Try.underlying31
 have HR0_1 := Aside0.mk hr0_1
 have HC0_1 := Aside0.mk hc0_1
 clear hr0_1 hc0_1
 have HR1 := Aside0.mk hr1
 have HC1 := Aside0.mk hc1
 clear hr1 hc1
 have HB := aM (Below.refl w.heap.size w)
 have H : ((impl_isSet.f k a0_0 l0_1 l1).bind fun t641 => (if t641 = true then ((impl_within.f a2 1 8).bind fun t642 => (impl_SpreadOf.j0 k l1 a2 (!t642) a0_0 l0_1)) else (impl_SpreadOf.j0 k l1 a2 true a0_0 l0_1))) = some (r1, r2) := h
 clear h
 have HC4 := Aside0.mk H
 clear H
 go_enter Try.func48, Try.ntmps48
 go_upto_region 1 with (first | ((with_reducible refine gate_dst (N := 3) rfl ?_);refine box_event ?hg (N := 3) ?hd (cs := #[.int .i64 a0_0, .slice A0_1 l0_1.length c0_1]) (t := 31) ?hr ?_;(case hd => rfl);(case hg => rfl);(case hr => first | (go_simp;done) | (go_simp;rfl));intro gb640 hg w5 hbox hb;have n0_ := aM (below_step (by exact bB) hb);have n1_ := aM (hbox);have n2_ := aM (sW hg : w.heap.size ≤ gb640);have n3_ := aM (sW hg : w.heap.size ≤ gb640);clear HB;have HB := n0_;have BK640 := n1_;have GW640 := n2_;have GE640 := n3_;clear n0_ n1_ n2_ n3_;clear hb hbox hg))
 (try simp only [Act.put, List.setIfInBounds_toArray, List.set_cons_zero, List.set_cons_succ])
 go_cut [16] (fun v16 wc => ∃ (kq : Nat) (x16_3 : Bool), v16 = .bool x16_3 ∧ Aside0 (impl_SpreadOf.j0 kq l1 a2 x16_3 a0_0 l0_1 = some (r1, r2)) ∧ Aside0 (kq ≤ k) ∧ Aside0 (wc.heap[gb640]? = some (.cells #[.int .i64 a0_0, (.slice A0_1 l0_1.length c0_1)] 31 (0, 0))) ∧ Aside0 (Below w.heap.size w wc))
 case first =>
  have H := HC4.out
  clear HC4
  replace H := Option.bind_eq_some_iff.mp H
  obtain ⟨t641, A60, H⟩ := H
  replace H : (if t641 = true then ((impl_within.f a2 1 8).bind fun t642 => (impl_SpreadOf.j0 k l1 a2 (!t642) a0_0 l0_1)) else (impl_SpreadOf.j0 k l1 a2 true a0_0 l0_1)) = some (r1, r2) := H
  have A6 := Aside0.mk A60
  clear A60
  by_cases c7 : t641 = true
  rotate_left
  ·replace c7 := Bool.eq_false_iff.mpr c7
   subst c7
   have H1 : (impl_SpreadOf.j0 k l1 a2 true a0_0 l0_1) = some (r1, r2) := by rw [if_neg (show ¬ (false = true) by decide)] at H;exact H
   clear H
   have H := H1
   clear H1
   have H' := Aside0.mk H
   clear H
   have hcz11_0 := bC0 BK640.out
   have hcz11_1 := bC1 BK640.out
   have hfz11_0 := blk_frozen BK640.out 0
   have hfz11_1 := blk_frozen BK640.out 1
   go_wp2_with (first | ((with_reducible refine gate_callee (f := 86) rfl ?_);refine goesL_ (some 10) rfl rfl Try.func86 (by kernel_rfl) rfl #[.agg #[.int .i64 a0_0, .slice A0_1 l0_1.length c0_1], .slice A1 l1.length c1] rfl mM ?_;(with_reducible refine (impl_isSet.calls k a0_0 _ _ l0_1 _ _ l1 false _ ?side1 ?side2 ?side3 ?side4 A6.out).mono ?_);(case side1 => exact cP (Kd.C_below HR0_1.out HB.out));(case side2 => exact HC0_1.out);(case side3 => exact cP (Kd.C_below HR1.out HB.out));(case side4 => exact HC1.out);rintro e w12 ⟨rfl, hb⟩;refine ⟨_, rfl, ?_⟩;have n0_ := aM (kB hb BK640.out);have n1_ := aM (below_step (by exact bB) hb);clear BK640;clear HB;have BK640 := n0_;have HB := n1_;clear n0_ n1_;(try clear hb);(try clear hb2);(try clear hk);(try clear hi)))
   go_meet
   case rel => exact ⟨_, (true), (by first | rfl | (simp;done) | (simp [*];done)), H', ⟨by first | omega | exact Nat.le_refl _⟩, ⟨by exact kP BK640.out⟩, ⟨by exact bB⟩⟩
  subst c7
  have H1 : ((impl_within.f a2 1 8).bind fun t642 => (impl_SpreadOf.j0 k l1 a2 (!t642) a0_0 l0_1)) = some (r1, r2) := by rw [if_pos rfl] at H;exact H
  clear H
  have H := H1
  clear H1
  replace H := Option.bind_eq_some_iff.mp H
  obtain ⟨t642, A80, H⟩ := H
  replace H : (impl_SpreadOf.j0 k l1 a2 (!t642) a0_0 l0_1) = some (r1, r2) := H
  have A8 := Aside0.mk A80
  clear A80
  have H' := Aside0.mk H
  clear H
  have hcz9_0 := bC0 BK640.out
  have hcz9_1 := bC1 BK640.out
  have hfz9_0 := blk_frozen BK640.out 0
  have hfz9_1 := blk_frozen BK640.out 1
  go_wp2_with (first | ((with_reducible refine gate_callee (f := 86) rfl ?_);refine goesL_ (some 10) rfl rfl Try.func86 (by kernel_rfl) rfl #[.agg #[.int .i64 a0_0, .slice A0_1 l0_1.length c0_1], .slice A1 l1.length c1] rfl mM ?_;(with_reducible refine (impl_isSet.calls k a0_0 _ _ l0_1 _ _ l1 true _ ?side1 ?side2 ?side3 ?side4 A6.out).mono ?_);(case side1 => exact cP (Kd.C_below HR0_1.out HB.out));(case side2 => exact HC0_1.out);(case side3 => exact cP (Kd.C_below HR1.out HB.out));(case side4 => exact HC1.out);rintro e w10 ⟨rfl, hb⟩;refine ⟨_, rfl, ?_⟩;have n0_ := aM (kB hb BK640.out);have n1_ := aM (below_step (by exact bB) hb);clear BK640;clear HB;have BK640 := n0_;have HB := n1_;clear n0_ n1_;(try clear hb);(try clear hb2);(try clear hk);(try clear hi)) | (go_at_call 82;(with_reducible refine (impl_within.calls a2 1 8 t642 _ A8.out).mono ?_);rintro e w' ⟨rfl, ⟨nd, rfl⟩⟩))
  go_meet
  case rel => exact ⟨_, (!t642), (by first | rfl | (simp;done) | (simp [*];done)), H', ⟨by first | omega | exact Nat.le_refl _⟩, ⟨by exact kP BK640.out⟩, ⟨by exact bB⟩⟩
 case rest =>
  clear HC4
  try clear c1
  try clear p2
  try clear c4
  try clear c7
  try clear c8
  try clear hcz11_0
  try clear hcz11_1
  try clear hcz9_0
  try clear hcz9_1
  try clear hfz11_0
  try clear hfz11_1
  try clear hfz9_0
  try clear hfz9_1
  obtain ⟨kq, x16_3, rfl, HA, HJ3, BK640, HB⟩ := hcut
  cases kq with
  | zero => exact absurd HA.out (by simp [impl_SpreadOf.j0])
  | succ kj3 =>
   have H := HA.out
   clear HA
   simp only [impl_SpreadOf.j0] at H
   by_cases c13 : x16_3 = true
   ·subst c13
    have H1 : (some (([] : List Int), false)) = some (r1, r2) := by rw [if_pos rfl] at H;exact H
    clear H
    have H := H1
    clear H1
    simp only [Option.some.injEq, Prod.mk.injEq] at H
    obtain ⟨rfl, rfl⟩ := H
    go_wp2
    go_ret2
    exact ⟨_, by first | rfl | (simp [errW_none, errW_some] <;> rfl) | (simp [*, errW_none, errW_some] <;> rfl), by first | exact Kd.R_nil _ _ _ _ _ | exact Kd.N_nil _ _ _ _ _ | exact Kd.V_nil _ _ _ _ _ | exact Kd.Q_nil _ _ _ _ _ | exact Kd.S_nil _ _ _ _ _, by exact bB⟩
   replace c13 := Bool.eq_false_iff.mpr c13
   subst c13
   have H1 : ((impl_netOf.f a0_0 l0_1).bind fun t643 => ((impl_maskOf.f kj3 l1).bind fun t646 => ((impl_net_spread.f kj3 t643 t646 a2).bind fun t647 => ((impl_setOf.f kj3 t647).bind fun t648 => (some (t648, true)))))) = some (r1, r2) := by rw [if_neg (show ¬ (false = true) by decide)] at H;exact H
   clear H
   have H := H1
   clear H1
   replace H := Option.bind_eq_some_iff.mp H
   obtain ⟨t643, A140, H⟩ := H
   replace H : ((impl_maskOf.f kj3 l1).bind fun t646 => ((impl_net_spread.f kj3 t643 t646 a2).bind fun t647 => ((impl_setOf.f kj3 t647).bind fun t648 => (some (t648, true))))) = some (r1, r2) := H
   have A14 := Aside0.mk A140
   clear A140
   replace H := Option.bind_eq_some_iff.mp H
   obtain ⟨t646, A150, H⟩ := H
   replace H : ((impl_net_spread.f kj3 t643 t646 a2).bind fun t647 => ((impl_setOf.f kj3 t647).bind fun t648 => (some (t648, true)))) = some (r1, r2) := H
   have A15 := Aside0.mk A150
   clear A150
   replace H := Option.bind_eq_some_iff.mp H
   obtain ⟨t647, A160, H⟩ := H
   replace H : ((impl_setOf.f kj3 t647).bind fun t648 => (some (t648, true))) = some (r1, r2) := H
   have A16 := Aside0.mk A160
   clear A160
   replace H := Option.bind_eq_some_iff.mp H
   obtain ⟨t648, A170, H⟩ := H
   replace H : (some (t648, true)) = some (r1, r2) := H
   have A17 := Aside0.mk A170
   clear A170
   simp only [Option.some.injEq, Prod.mk.injEq] at H
   obtain ⟨rfl, rfl⟩ := H
   have hcz18_0 := bC0 BK640.out
   have hcz18_1 := bC1 BK640.out
   have hfz18_0 := blk_frozen BK640.out 0
   have hfz18_1 := blk_frozen BK640.out 1
   go_wp2_with (first | ((with_reducible refine gate_callee (f := 72) rfl ?_);refine goesL_ (some 18) rfl rfl Try.func72 (by kernel_rfl) rfl #[.agg #[.int .i64 a0_0, .slice A0_1 l0_1.length c0_1]] rfl mM ?_;(with_reducible refine (impl_netOf.calls a0_0 _ _ l0_1 t643 _ ?side1 ?side2 A14.out).mono ?_);(case side1 => exact cP (Kd.C_below HR0_1.out HB.out));(case side2 => exact HC0_1.out);rintro e w19 ⟨v644, rfl, ho0, hb⟩;refine ⟨_, rfl, ?_⟩;have n0_ := aM (Kd.R_lower ho0 (below_size (by exact bB)));have n1_ := aM (kB hb BK640.out);have n2_ := aM (below_step (by exact bB) hb);clear BK640;clear HB;have HO645 := n0_;have BK640 := n1_;have HB := n2_;clear n0_ n1_ n2_;(try clear hb);(try clear hb2);(try clear hk);(try clear hi);(try clear ho0)) | ((with_reducible refine gate_callee (f := 89) rfl ?_);refine goesL_ (some 20) rfl rfl Try.func89 (by kernel_rfl) rfl #[.slice A1 l1.length c1] rfl mM ?_;(with_reducible refine (impl_maskOf.calls kj3 _ _ l1 t646 _ ?side1 ?side2 A15.out).mono ?_);(case side1 => exact cP (Kd.C_below HR1.out HB.out));(case side2 => exact HC1.out);rintro e w' ⟨rfl, ⟨nd, rfl⟩⟩;refine ⟨_, rfl, ?_⟩;obtain ⟨Ao20, co20, eo20⟩ := Kd.R_slice HO645.out;subst eo20) | ((with_reducible refine gate_callee (f := 97) rfl ?_);refine goesL_ (some 22) rfl rfl Try.func97 (by kernel_rfl) rfl #[.agg #[.slice Ao20 t643.length co20], .int .i64 t646, .int .i64 a2] rfl mM ?_;(with_reducible refine (impl_net_spread.calls kj3 _ _ t643 t646 a2 t647 _ ?side1 ?side2 A16.out).mono ?_);(case side1 => exact cP (Kd.R_reads' HO645.out).2.2);(case side2 => exact (Kd.R_reads' HO645.out).2.1);rintro e w21 ⟨rfl, hb⟩;refine ⟨_, rfl, ?_⟩;have n0_ := aM (Kd.R_below (by exact rP HO645.out) hb);have n1_ := aM (kB hb BK640.out);have n2_ := aM (below_step (by exact bB) hb);clear HO645;clear BK640;clear HB;have HO645 := n0_;have BK640 := n1_;have HB := n2_;clear n0_ n1_ n2_;(try clear hb);(try clear hb2);(try clear hk);(try clear hi)) | ((with_reducible refine gate_callee (f := 71) rfl ?_);refine goesL_ (some 23) rfl rfl Try.func71 (by kernel_rfl) rfl #[.int .i64 t647] rfl mM ?_;(with_reducible refine (impl_setOf.calls kj3 t647 t648 _ A17.out).mono ?_);rintro e w22 ⟨v649, rfl, ho0, hb⟩;refine ⟨_, rfl, ?_⟩;have n0_ := aM (Kd.R_elder' (by exact rP HO645.out) (Kd.R_base ho0) hb);have n1_ := aM (Kd.R_lower (Kd.R_new' ho0 (Kd.R_lt (by exact rP HO645.out))) (below_size (by exact bB)));have n2_ := aM (kB hb BK640.out);have n3_ := aM (below_step (by exact bB) hb);clear HO645;clear BK640;clear HB;have HO645 := n0_;have HO650 := n1_;have BK640 := n2_;have HB := n3_;clear n0_ n1_ n2_ n3_;(try clear hb);(try clear hb2);(try clear hk);(try clear hi);(try clear ho0)))
   go_ret2
   exact ⟨_, by first | rfl | (simp [errW_none, errW_some] <;> rfl) | (simp [*, errW_none, errW_some] <;> rfl), by refine rP ?_;exact Kd.R_mono HO650.out (fun _ hk => trivial), by exact bB⟩


/-! ### spec_l8Number: function 99 -/
def spec_l8Number.f (a0 : Int) : Option (Bool) := (spec_l1In.f a0 1 8).bind fun t651 => (some t651)
set_option maxHeartbeats 8000000 in
set_option maxRecDepth 100000 in
theorem spec_l8Number.calls (a0 : Int) (r : Bool) (w : World) (h : spec_l8Number.f a0 = some r) :
  Calls Try.prog 99 #[.int .i64 a0] w fun e w' => e = .returned (.bool r) ∧ Drawn0 w w' := by
 have H : ((spec_l1In.f a0 1 8).bind fun t651 => (some t651)) = some r := h
 clear h
 replace H := Option.bind_eq_some_iff.mp H
 obtain ⟨t651, A20, H⟩ := H
 replace H : (some t651) = some r := H
 have A2 := Aside0.mk A20
 clear A20
 obtain rfl := Option.some.inj H
 go_enter Try.func99, Try.ntmps99
 go_wp2_with (first | ((with_reducible refine gate_callee (f := 84) rfl ?_);refine goesL_ (some 4) rfl rfl Try.func84 (by kernel_rfl) rfl #[.int .i64 a0, .int .i64 1, .int .i64 8] rfl mM ?_;(with_reducible refine (spec_l1In.calls a0 1 8 t651 _ A2.out).mono ?_);rintro e w' ⟨rfl, ⟨nd, rfl⟩⟩;refine ⟨_, rfl, ?_⟩))
 go_ret
 exact ⟨by first | rfl | (simp;done) | (simp [*];done), by repeat (first | exact Drawn0.refl _ | apply Drawn0.step)⟩


end Go.Proofs.Ytmokkhfmbenleaa.QSpreading
