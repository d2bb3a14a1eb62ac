import Derived.Test.YtmokkhfmbenleaaQSpreading0
import Derived.Test.YtmokkhfmbenleaaQSpreading1
import Derived.Test.YtmokkhfmbenleaaQSpreading2
import Derived.Test.YtmokkhfmbenleaaQSpreading7
namespace Go.Proofs.Ytmokkhfmbenleaa.QSpreading
open Go.RowKit Go.Proofs.YtmokkhfmbenleaaW.PrintWords Go.Proofs.YtmokkhfmbenleaaW.PrintLast Go.Proofs.YtmokkhfmbenleaaW.PrintMore
attribute [local go_sem] max2_int min2_int max_two min_two max_three min_three max_four min_four   -- for this text's walks alone
set_option linter.unusedVariables false
set_option linter.unusedSimpArgs false
/-! ### impl_LeastSpreading: function 53 -/
mutual
def impl_LeastSpreading.j0 : Nat → Int → Bool → Int → List (S119) → Option (List Int × Bool)
 | 0, _, _, _, _ => none
 | k + 1, x1, x18, x711000, x711001 => if x18 = true then (some (([] : List Int), false)) else ((impl_netOf.f x711000 x711001).bind fun t713 => ((impl_net_all.f t713).bind fun t717 => (impl_LeastSpreading.l0 k x1 ([] : List Int) false (wrap64 (t717 + 1)) 0 t713)))
def impl_LeastSpreading.l0 : Nat → Int → List Int → Bool → Int → Int → List Int → Option (List Int × Bool)
 | 0, _, _, _, _, _, _ => none
 | k + 1, x1, x7, x8, x23, x24, x717000 => if x24 < x23 then ((impl_setOf.f k x24).bind fun t718 => ((impl_net_spread.f k x717000 x24 x1).bind fun t721 => ((impl_net_all.f x717000).bind fun t722 => (if t721 = t722 then (if x8 = true then (if (t718.length : Int) < (x7.length : Int) then (impl_LeastSpreading.l0 k x1 t718 true x23 (wrap64 (x24 + 1)) x717000) else (if (t718.length : Int) = (x7.length : Int) then ((slices_Compare_int_int.f k t718 x7).bind fun t723 => (if t723 < 0 then (impl_LeastSpreading.l0 k x1 t718 true x23 (wrap64 (x24 + 1)) x717000) else (impl_LeastSpreading.l0 k x1 x7 x8 x23 (wrap64 (x24 + 1)) x717000))) else (impl_LeastSpreading.l0 k x1 x7 x8 x23 (wrap64 (x24 + 1)) x717000))) else (impl_LeastSpreading.l0 k x1 t718 true x23 (wrap64 (x24 + 1)) x717000)) else (impl_LeastSpreading.l0 k x1 x7 x8 x23 (wrap64 (x24 + 1)) x717000))))) else (some (x7, true))
end
def impl_LeastSpreading.f (k : Nat) (a0_0 : Int) (l0_1 : List (S119)) (a1 : Int) : Option (List Int × Bool) := (impl_IsGraph.f a0_0 l0_1).bind fun t711 => (if t711 = true then ((impl_within.f a1 1 8).bind fun t712 => (impl_LeastSpreading.j0 k a1 (!t712) a0_0 l0_1)) else (impl_LeastSpreading.j0 k a1 true a0_0 l0_1))
theorem impl_LeastSpreading.mono_l : ∀ k, (∀ y0 y1 y2 y3, LeO (impl_LeastSpreading.j0 k y0 y1 y2 y3) (impl_LeastSpreading.j0 (k + 1) y0 y1 y2 y3)) ∧ (∀ y0 y1 y2 y3 y4 y5, LeO (impl_LeastSpreading.l0 k y0 y1 y2 y3 y4 y5) (impl_LeastSpreading.l0 (k + 1) y0 y1 y2 y3 y4 y5))
 | 0 => ⟨fun _ _ _ _ r h => by simp [impl_LeastSpreading.j0] at h, fun _ _ _ _ _ _ r h => by simp [impl_LeastSpreading.l0] at h⟩
 | k + 1 => by
  obtain ⟨ih0, ih1⟩ := impl_LeastSpreading.mono_l k
  refine ⟨?_, ?_⟩
  ·intro y0 y1 y2 y3
   unfold impl_LeastSpreading.j0
   repeat' first
   | (with_reducible exact ih0 _ _ _ _)
   | (with_reducible exact ih1 _ _ _ _ _ _)
   | (with_reducible exact impl_net_spread.mono _ _ _ _)
   | (with_reducible exact impl_setOf.mono _ _)
   | (with_reducible exact slices_Compare_int_int.mono _ _ _)
   | (with_reducible exact LeO.refl _)
   | (with_reducible exact LeO.none _)
   | (with_reducible refine LeO.ite ?_ ?_)
   | (with_reducible refine LeO.bind ?_ (fun _ => ?_))
   | exact LeO.none _
   | refine LeO.ite ?_ ?_
   | refine LeO.bind ?_ (fun _ => ?_)
  ·intro y0 y1 y2 y3 y4 y5
   unfold impl_LeastSpreading.l0
   repeat' first
   | (with_reducible exact ih0 _ _ _ _)
   | (with_reducible exact ih1 _ _ _ _ _ _)
   | (with_reducible exact impl_net_spread.mono _ _ _ _)
   | (with_reducible exact impl_setOf.mono _ _)
   | (with_reducible exact slices_Compare_int_int.mono _ _ _)
   | (with_reducible exact LeO.refl _)
   | (with_reducible exact LeO.none _)
   | (with_reducible refine LeO.ite ?_ ?_)
   | (with_reducible refine LeO.bind ?_ (fun _ => ?_))
   | exact LeO.none _
   | refine LeO.ite ?_ ?_
   | refine LeO.bind ?_ (fun _ => ?_)
theorem impl_LeastSpreading.mono : ∀ a0 a1 a2 k, LeO (impl_LeastSpreading.f k a0 a1 a2) (impl_LeastSpreading.f (k + 1) a0 a1 a2) := by
 intro a0 a1 a2 k
 obtain ⟨ih0, ih1⟩ := impl_LeastSpreading.mono_l k
 unfold impl_LeastSpreading.f
 repeat' first
   | (with_reducible exact ih0 _ _ _ _)
   | (with_reducible exact ih1 _ _ _ _ _ _)
   | (with_reducible exact impl_net_spread.mono _ _ _ _)
   | (with_reducible exact impl_setOf.mono _ _)
   | (with_reducible exact slices_Compare_int_int.mono _ _ _)
   | (with_reducible exact LeO.refl _)
   | (with_reducible exact LeO.none _)
   | (with_reducible refine LeO.ite ?_ ?_)
   | (with_reducible refine LeO.bind ?_ (fun _ => ?_))
   | exact LeO.none _
   | refine LeO.ite ?_ ?_
   | refine LeO.bind ?_ (fun _ => ?_)
def impl_LeastSpreading.T9 : Bool × List (List Nat × List Nat) := (true, [([], []), ([], []), ([], []), ([0, 1, 2], [0, 1, 2]), ([], []), ([4, 3], [4]), ([3, 5], [3, 5]), ([6, 5], [6]), ([7], [7]), ([8, 7], [7, 8]), ([9, 7, 7], [7, 9]), ([10], [10]), ([11, 10], [10, 11]), ([10], [10]), ([13, 10], [10, 13]), ([12, 14, 10], [10, 12, 14]), ([10, 15, 7], [7, 10, 15]), ([16, 10, 7], [7, 16]), ([17], [17]), ([18, 17], [17, 18]), ([17], [17]), ([20, 17], [17, 20]), ([19, 21, 17], [17, 19, 21]), ([22, 17, 17], [17, 22]), ([23], [23]), ([23], [23]), ([24, 25, 23, 23], [23, 24, 25]), ([26, 23], [23, 26]), ([23, 27, 17], [17, 23, 27]), ([17, 28, 7], [7, 17, 28]), ([7, 29], [7, 29])])
def impl_LeastSpreading.B9 : List Nat := [0, 0, 0, 7, 0, 31, 63, 127, 255, 511, 1023, 2047, 4095, 2047, 10239, 32767, 65535, 131071, 262143, 524287, 262143, 1310719, 4194303, 8388607, 16777215, 16777215, 67108863, 134217727, 268435455, 536870911, 1073741823]
theorem impl_LeastSpreading.tab9 : rtab .any (opsOf Try.f53 9) = impl_LeastSpreading.T9 := by kernel_rfl
theorem impl_LeastSpreading.bits9 : waitsOk impl_LeastSpreading.T9.2 impl_LeastSpreading.B9 = true := by kernel_rfl
set_option maxHeartbeats 8000000 in
set_option maxRecDepth 100000 in
theorem impl_LeastSpreading.calls (k : Nat) (a0_0 : Int) (A0_1 : Option Addr) (c0_1 : Nat) (l0_1 : List (S119)) (a1 : Int) (r1 : List Int) (r2 : Bool) (w : World) (hr0_1 : Kd.C k119 w A0_1 l0_1.length l0_1) (hc0_1 : l0_1.length ≤ c0_1) (h : impl_LeastSpreading.f k a0_0 l0_1 a1 = some (r1, r2)) :
  Calls Try.prog 53 #[.agg #[.int .i64 a0_0, .slice A0_1 l0_1.length c0_1], .int .i64 a1] w fun e w' => ∃ v0_ : Value, e = .returned (.tuple #[v0_, .bool r2]) ∧ Kd.R (Kd.int .i64) 3 w' w.heap.size (fun _ => True) v0_ r1 ∧ Below w.heap.size w w' := by
 have hu31 := Try.underlying31
 have hu80 := Try.underlying80
 have HR0_1 := Aside0.mk hr0_1
 have HC0_1 := Aside0.mk hc0_1
 clear hr0_1 hc0_1
 have HB := aM (Below.refl w.heap.size w)
 have H : ((impl_IsGraph.f a0_0 l0_1).bind fun t711 => (if t711 = true then ((impl_within.f a1 1 8).bind fun t712 => (impl_LeastSpreading.j0 k a1 (!t712) a0_0 l0_1)) else (impl_LeastSpreading.j0 k a1 true a0_0 l0_1))) = some (r1, r2) := h
 clear h
 have HC3 := Aside0.mk H
 clear H
 go_enter Try.func53, Try.ntmps53
 go_upto_region 1 with (first | ((with_reducible refine gate_dst (N := 2) rfl ?_);(try (refine gate_guard (by rfl) ?_;dsimp only));refine box_event ?hg (N := 2) ?hd (cs := #[.int .i64 a0_0, .slice A0_1 l0_1.length c0_1]) (t := 31) ?hr ?_;(case hd => rfl);(case hg => rfl);(case hr => first | (go_simp;done) | (go_simp;rfl));intro gb710 hg w4 hbox hb;have n0_ := aM (below_step (by exact bB) hb);have n1_ := aM (hbox);have n2_ := aM (sW hg : w.heap.size ≤ gb710);have n3_ := aM (sW hg : w.heap.size ≤ gb710);clear HB;have HB := n0_;have BK710 := n1_;have GW710 := n2_;have GE710 := n3_;clear n0_ n1_ n2_ n3_;clear hb hbox hg))
 (try simp only [Act.put, List.setIfInBounds_toArray, List.set_cons_zero, List.set_cons_succ])
 go_cut [18] (fun v18 wc => ∃ (kq : Nat) (x18_2 : Bool), v18 = .bool x18_2 ∧ Aside0 (impl_LeastSpreading.j0 kq a1 x18_2 a0_0 l0_1 = some (r1, r2)) ∧ Aside0 (kq ≤ k) ∧ Aside0 (wc.heap[gb710]? = some (.cells #[.int .i64 a0_0, (.slice A0_1 l0_1.length c0_1)] 31 (0, 0))) ∧ Aside0 (Below w.heap.size w wc))
 case first =>
  have H := HC3.out
  clear HC3
  replace H := Option.bind_eq_some_iff.mp H
  obtain ⟨t711, A50, H⟩ := H
  replace H : (if t711 = true then ((impl_within.f a1 1 8).bind fun t712 => (impl_LeastSpreading.j0 k a1 (!t712) a0_0 l0_1)) else (impl_LeastSpreading.j0 k a1 true a0_0 l0_1)) = some (r1, r2) := H
  have A5 := Aside0.mk A50
  clear A50
  by_cases c6 : t711 = true
  rotate_left
  ·replace c6 := Bool.eq_false_iff.mpr c6
   subst c6
   have H1 : (impl_LeastSpreading.j0 k a1 true a0_0 l0_1) = some (r1, r2) := by rw [if_neg (show ¬ (false = true) by decide)] at H;exact H
   clear H
   have H := H1
   clear H1
   have H' := Aside0.mk H
   clear H
   have hcz10_0 := bC0 BK710.out
   have hcz10_1 := bC1 BK710.out
   have hfz10_0 := blk_frozen BK710.out 0
   have hfz10_1 := blk_frozen BK710.out 1
   go_wp2_with (first | ((with_reducible refine gate_callee (f := 81) rfl ?_);refine goesL_ (some 12) rfl rfl Try.func81 (by kernel_rfl) rfl #[.agg #[.int .i64 a0_0, .slice A0_1 l0_1.length c0_1]] rfl mM ?_;(with_reducible refine (impl_IsGraph.calls a0_0 _ _ l0_1 false _ ?side1 ?side2 A5.out).mono ?_);(case side1 => exact cP (Kd.C_below HR0_1.out HB.out));(case side2 => exact HC0_1.out);rintro e w11 ⟨rfl, hb⟩;refine ⟨_, rfl, ?_⟩;have n0_ := aM (kB hb BK710.out);have n1_ := aM (below_step (by exact bB) hb);clear BK710;clear HB;have BK710 := n0_;have HB := n1_;clear n0_ n1_;(try clear hb);(try clear hb2);(try clear hk);(try clear hi)))
   go_meet
   case rel => exact ⟨_, (true), (by first | rfl | (simp;done) | (simp [*];done)), H', ⟨by first | omega | exact Nat.le_refl _⟩, ⟨by exact kP BK710.out⟩, ⟨by exact bB⟩⟩
  subst c6
  have H1 : ((impl_within.f a1 1 8).bind fun t712 => (impl_LeastSpreading.j0 k a1 (!t712) a0_0 l0_1)) = some (r1, r2) := by rw [if_pos rfl] at H;exact H
  clear H
  have H := H1
  clear H1
  replace H := Option.bind_eq_some_iff.mp H
  obtain ⟨t712, A70, H⟩ := H
  replace H : (impl_LeastSpreading.j0 k a1 (!t712) a0_0 l0_1) = some (r1, r2) := H
  have A7 := Aside0.mk A70
  clear A70
  have H' := Aside0.mk H
  clear H
  have hcz8_0 := bC0 BK710.out
  have hcz8_1 := bC1 BK710.out
  have hfz8_0 := blk_frozen BK710.out 0
  have hfz8_1 := blk_frozen BK710.out 1
  go_wp2_with (first | ((with_reducible refine gate_callee (f := 81) rfl ?_);refine goesL_ (some 12) rfl rfl Try.func81 (by kernel_rfl) rfl #[.agg #[.int .i64 a0_0, .slice A0_1 l0_1.length c0_1]] rfl mM ?_;(with_reducible refine (impl_IsGraph.calls a0_0 _ _ l0_1 true _ ?side1 ?side2 A5.out).mono ?_);(case side1 => exact cP (Kd.C_below HR0_1.out HB.out));(case side2 => exact HC0_1.out);rintro e w9 ⟨rfl, hb⟩;refine ⟨_, rfl, ?_⟩;have n0_ := aM (kB hb BK710.out);have n1_ := aM (below_step (by exact bB) hb);clear BK710;clear HB;have BK710 := n0_;have HB := n1_;clear n0_ n1_;(try clear hb);(try clear hb2);(try clear hk);(try clear hi)) | (go_at_call 82;(with_reducible refine (impl_within.calls a1 1 8 t712 _ A7.out).mono ?_);rintro e w' ⟨rfl, ⟨nd, rfl⟩⟩))
  go_meet
  case rel => exact ⟨_, (!t712), (by first | rfl | (simp;done) | (simp [*];done)), H', ⟨by first | omega | exact Nat.le_refl _⟩, ⟨by exact kP BK710.out⟩, ⟨by exact bB⟩⟩
 case rest =>
  clear HC3
  try clear p2
  try clear c5
  try clear c6
  try clear c8
  try clear hcz10_0
  try clear hcz10_1
  try clear hcz8_0
  try clear hcz8_1
  try clear hfz10_0
  try clear hfz10_1
  try clear hfz8_0
  try clear hfz8_1
  obtain ⟨kq, x18_2, rfl, HA, HJ2, BK710, HB⟩ := hcut
  cases kq with
  | zero => exact absurd HA.out (by simp [impl_LeastSpreading.j0])
  | succ kj2 =>
   have H := HA.out
   clear HA
   simp only [impl_LeastSpreading.j0] at H
   by_cases c12 : x18_2 = true
   ·subst c12
    have H1 : (some (([] : List Int), false)) = some (r1, r2) := by rw [if_pos rfl] at H;exact H
    clear H
    have H := H1
    clear H1
    simp only [Option.some.injEq, Prod.mk.injEq] at H
    obtain ⟨rfl, rfl⟩ := H
    go_wp2
    go_ret2
    exact ⟨_, by first | rfl | (simp [errW_none, errW_some] <;> rfl) | (simp [*, errW_none, errW_some] <;> rfl), by first | exact Kd.R_nil _ _ _ _ _ | exact Kd.N_nil _ _ _ _ _ | exact Kd.V_nil _ _ _ _ _ | exact Kd.Q_nil _ _ _ _ _ | exact Kd.S_nil _ _ _ _ _, by exact bB⟩
   replace c12 := Bool.eq_false_iff.mpr c12
   subst c12
   have H1 : ((impl_netOf.f a0_0 l0_1).bind fun t713 => ((impl_net_all.f t713).bind fun t717 => (impl_LeastSpreading.l0 kj2 a1 ([] : List Int) false (wrap64 (t717 + 1)) 0 t713))) = some (r1, r2) := by rw [if_neg (show ¬ (false = true) by decide)] at H;exact H
   clear H
   have H := H1
   clear H1
   replace H := Option.bind_eq_some_iff.mp H
   obtain ⟨t713, A130, H⟩ := H
   replace H : ((impl_net_all.f t713).bind fun t717 => (impl_LeastSpreading.l0 kj2 a1 ([] : List Int) false (wrap64 (t717 + 1)) 0 t713)) = some (r1, r2) := H
   have A13 := Aside0.mk A130
   clear A130
   replace H := Option.bind_eq_some_iff.mp H
   obtain ⟨t717, A140, H⟩ := H
   replace H : (impl_LeastSpreading.l0 kj2 a1 ([] : List Int) false (wrap64 (t717 + 1)) 0 t713) = some (r1, r2) := H
   have A14 := Aside0.mk A140
   clear A140
   have H' := Aside0.mk H
   clear H
   have hcz15_0 := bC0 BK710.out
   have hcz15_1 := bC1 BK710.out
   have hfz15_0 := blk_frozen BK710.out 0
   have hfz15_1 := blk_frozen BK710.out 1
   go_wp2_with (first | ((with_reducible refine gate_callee (f := 72) rfl ?_);refine goesL_ (some 20) rfl rfl Try.func72 (by kernel_rfl) rfl #[.agg #[.int .i64 a0_0, .slice A0_1 l0_1.length c0_1]] rfl mM ?_;(with_reducible refine (impl_netOf.calls a0_0 _ _ l0_1 t713 _ ?side1 ?side2 A13.out).mono ?_);(case side1 => exact cP (Kd.C_below HR0_1.out HB.out));(case side2 => exact HC0_1.out);rintro e w16 ⟨v714, rfl, ho0, hb⟩;refine ⟨_, rfl, ?_⟩;have n0_ := aM (Kd.R_lower ho0 (below_size (by exact bB)));have n1_ := aM (kB hb BK710.out);have n2_ := aM (below_step (by exact bB) hb);clear BK710;clear HB;have HO715 := n0_;have BK710 := n1_;have HB := n2_;clear n0_ n1_ n2_;(try clear hb);(try clear hb2);(try clear hk);(try clear hi);(try clear ho0)) | ((with_reducible refine gate_dst (N := 6) rfl ?_);(try (refine gate_guard (by rfl) ?_;dsimp only));refine box_event ?hg (N := 6) ?hd (cs := #[.slice none 0 0]) (t := 80) ?hr ?_;(case hd => rfl);(case hg => rfl);(case hr => first | (go_simp;done) | (go_simp;rfl));intro gb716 hg w17 hbox hb;have n0_ := aM (Kd.R_below (by exact rP HO715.out) hb);have n1_ := aM (kB hb BK710.out);have n2_ := aM (below_step (by exact bB) hb);have n3_ := aM (hbox);have n4_ := aM (sW hg : w.heap.size ≤ gb716);have n5_ := aM (sW hg : w.heap.size ≤ gb716);have n6_ := aM (nL hg (kP BK710.out));have n7_ := aM (nG hg (kP BK710.out));clear HO715;clear BK710;clear HB;have HO715 := n0_;have BK710 := n1_;have HB := n2_;have BK716 := n3_;have GW716 := n4_;have GE716 := n5_;have NB710_716 := n6_;have NB716_710 := n7_;clear n0_ n1_ n2_ n3_ n4_ n5_ n6_ n7_;clear hb hbox hg;obtain ⟨Ao18, co18, eo18⟩ := Kd.R_slice HO715.out;subst eo18;have hnb19 := NB716_710.out;have hnc19 := NB710_716.out;have hcz20_0 := bC0 BK716.out;have hfz20_0 := blk_frozen BK716.out 0) | ((with_reducible refine gate_callee (f := 73) rfl ?_);refine goesL_ (some 22) rfl rfl Try.func73 (by kernel_rfl) rfl #[.agg #[.slice Ao18 t713.length co18]] rfl mM ?_;(with_reducible refine (impl_net_all.calls _ _ t713 t717 _ ?side1 ?side2 A14.out).mono ?_);(case side1 => refine (Kd.R_reads' (e := 3) (base := w.heap.size) (ok := fun k_ => True) (n := t713.length) (c := co18) ?_).2.2;exact (by refine rP ?_;exact (Kd.R_mono (Kd.R_far (p := ⟨gb716, 0, none⟩) (Kd.R_types HO715.out BK716.out (by decide)) (fun _ hk => hk.2) (.slice Ao18 t713.length co18)) (fun _ h_ => h_.1))));(case side2 => exact (Kd.R_reads' HO715.out).2.1);rintro e w21 ⟨rfl, hb⟩;refine ⟨_, rfl, ?_⟩;have n0_ := aM (Kd.R_below (by exact rP ((Kd.R_mono (Kd.R_far (p := ⟨gb716, 0, none⟩) (Kd.R_types HO715.out BK716.out (by decide)) (fun _ hk => hk.2) (.slice Ao18 t713.length co18)) (fun _ h_ => h_.1)))) hb);have n1_ := aM (blk_below (g := gb710) (o := .cells #[.int .i64 a0_0, .slice A0_1 l0_1.length c0_1] 31 (0, 0)) (by refine kP ?_;refine blk_far ?_ NB710_716.out _;exact kP BK710.out) hb);have n2_ := aM (blk_below (g := gb716) (o := .cells #[.slice Ao18 t713.length co18] 80 (0, 0)) (by refine kP ?_;refine blk_put (cs := #[.slice none 0 0]) ?_ 0 _ rfl;exact kP BK716.out) hb);have n3_ := aM (below_step (by exact bB) hb);clear HO715;clear BK710;clear BK716;clear HB;have HO715 := n0_;have BK710 := n1_;have BK716 := n2_;have HB := n3_;clear n0_ n1_ n2_ n3_;(try clear hb);(try clear hb2);(try clear hk);(try clear hi)))
   go_loopg [7, 8, 24] kj2 (fun kq v7 v8 v24 w' => ∃ (x7_2 : List Int) (x8_2 : Bool) (x24_2 : Int), v8 = .bool x8_2 ∧ v24 = .int .i64 x24_2 ∧ Aside0 (impl_LeastSpreading.l0 kq a1 x7_2 x8_2 (wrap64 (t717 + 1)) x24_2 t713 = some (r1, r2)) ∧ Aside0 (kq ≤ kj2) ∧ Aside0 (Kd.R (Kd.int .i64) 3 w' w.heap.size (fun k_ => some k_ ≠ ((.slice Ao18 t713.length co18) : Value).ownBlock) v7 x7_2) ∧ Aside0 (Kd.R (Kd.int .i64) 3 w' w.heap.size (fun k_ => some k_ ≠ (v7 : Value).ownBlock) (.slice Ao18 t713.length co18) t713) ∧ Aside0 (w'.heap[gb710]? = some (.cells #[.int .i64 a0_0, (.slice A0_1 l0_1.length c0_1)] 31 (0, 0))) ∧ Aside0 (w'.heap[gb716]? = some (.cells #[(.slice Ao18 t713.length co18)] 80 (0, 0))) ∧ Aside0 (Below w.heap.size w w'))
   case atStart => exact ⟨(([] : List Int)), (false), (0), (by first | rfl | (simp;done) | (simp [*];done)), (by first | rfl | (simp;done) | (simp [*];done)), H', ⟨Nat.le_refl _⟩, ⟨by first | exact Kd.R_nil _ _ _ _ _ | exact Kd.N_nil _ _ _ _ _ | exact Kd.V_nil _ _ _ _ _ | exact Kd.Q_nil _ _ _ _ _ | exact Kd.S_nil _ _ _ _ _⟩, ⟨by refine rP ?_;exact Kd.R_mono HO715.out (fun _ hk => (by simp [Value.ownBlock]))⟩, ⟨by exact kP BK710.out⟩, ⟨by exact kP BK716.out⟩, ⟨by exact bB⟩⟩
   case round =>
    clear H'
    try clear c1
    try clear p2
    try clear c5
    try clear c6
    try clear p6
    try clear c7
    try clear c8
    try clear c12
    try clear c19
    try clear hcz10_0
    try clear hcz10_1
    try clear hcz15_0
    try clear hcz15_1
    try clear hcz20_0
    try clear hcz8_0
    try clear hcz8_1
    try clear hfz10_0
    try clear hfz10_1
    try clear hfz15_0
    try clear hfz15_1
    try clear hfz20_0
    try clear hfz8_0
    try clear hfz8_1
    try clear p2
    obtain ⟨x7_2, x8_2, x24_2, rfl, rfl, HA, HK2, HO_7, HO_717000, BK710, BK716, HB⟩ := hrel
    cases gk with
    | zero => exact absurd HA.out (by simp [impl_LeastSpreading.l0])
    | succ k2 =>
     have H := HA.out
     clear HA
     simp only [impl_LeastSpreading.l0] at H
     by_cases c22 : x24_2 < (wrap64 (t717 + 1))
     rotate_left
     ·rw [if_neg c22] at H
      have c22b0 : decide (x24_2 < (wrap64 (t717 + 1))) = false := decide_eq_false c22
      clear c22
      simp only [Option.some.injEq, Prod.mk.injEq] at H
      obtain ⟨rfl, rfl⟩ := H
      go_wp2
      go_ret2
      exact ⟨_, by first | rfl | (simp [errW_none, errW_some] <;> rfl) | (simp [*, errW_none, errW_some] <;> rfl), by refine rP ?_;exact Kd.R_mono HO_7.out (fun _ hk => trivial), by exact bB⟩
     rw [if_pos c22] at H
     have c22b0 : decide (x24_2 < (wrap64 (t717 + 1))) = true := decide_eq_true c22
     clear c22
     replace H := Option.bind_eq_some_iff.mp H
     obtain ⟨t718, A230, H⟩ := H
     replace H : ((impl_net_spread.f k2 t713 x24_2 a1).bind fun t721 => ((impl_net_all.f t713).bind fun t722 => (if t721 = t722 then (if x8_2 = true then (if (t718.length : Int) < (x7_2.length : Int) then (impl_LeastSpreading.l0 k2 a1 t718 true (wrap64 (t717 + 1)) (wrap64 (x24_2 + 1)) t713) else (if (t718.length : Int) = (x7_2.length : Int) then ((slices_Compare_int_int.f k2 t718 x7_2).bind fun t723 => (if t723 < 0 then (impl_LeastSpreading.l0 k2 a1 t718 true (wrap64 (t717 + 1)) (wrap64 (x24_2 + 1)) t713) else (impl_LeastSpreading.l0 k2 a1 x7_2 x8_2 (wrap64 (t717 + 1)) (wrap64 (x24_2 + 1)) t713))) else (impl_LeastSpreading.l0 k2 a1 x7_2 x8_2 (wrap64 (t717 + 1)) (wrap64 (x24_2 + 1)) t713))) else (impl_LeastSpreading.l0 k2 a1 t718 true (wrap64 (t717 + 1)) (wrap64 (x24_2 + 1)) t713)) else (impl_LeastSpreading.l0 k2 a1 x7_2 x8_2 (wrap64 (t717 + 1)) (wrap64 (x24_2 + 1)) t713)))) = some (r1, r2) := H
     have A23 := Aside0.mk A230
     clear A230
     replace H := Option.bind_eq_some_iff.mp H
     obtain ⟨t721, A240, H⟩ := H
     replace H : ((impl_net_all.f t713).bind fun t722 => (if t721 = t722 then (if x8_2 = true then (if (t718.length : Int) < (x7_2.length : Int) then (impl_LeastSpreading.l0 k2 a1 t718 true (wrap64 (t717 + 1)) (wrap64 (x24_2 + 1)) t713) else (if (t718.length : Int) = (x7_2.length : Int) then ((slices_Compare_int_int.f k2 t718 x7_2).bind fun t723 => (if t723 < 0 then (impl_LeastSpreading.l0 k2 a1 t718 true (wrap64 (t717 + 1)) (wrap64 (x24_2 + 1)) t713) else (impl_LeastSpreading.l0 k2 a1 x7_2 x8_2 (wrap64 (t717 + 1)) (wrap64 (x24_2 + 1)) t713))) else (impl_LeastSpreading.l0 k2 a1 x7_2 x8_2 (wrap64 (t717 + 1)) (wrap64 (x24_2 + 1)) t713))) else (impl_LeastSpreading.l0 k2 a1 t718 true (wrap64 (t717 + 1)) (wrap64 (x24_2 + 1)) t713)) else (impl_LeastSpreading.l0 k2 a1 x7_2 x8_2 (wrap64 (t717 + 1)) (wrap64 (x24_2 + 1)) t713))) = some (r1, r2) := H
     have A24 := Aside0.mk A240
     clear A240
     replace H := Option.bind_eq_some_iff.mp H
     obtain ⟨t722, A250, H⟩ := H
     replace H : (if t721 = t722 then (if x8_2 = true then (if (t718.length : Int) < (x7_2.length : Int) then (impl_LeastSpreading.l0 k2 a1 t718 true (wrap64 (t717 + 1)) (wrap64 (x24_2 + 1)) t713) else (if (t718.length : Int) = (x7_2.length : Int) then ((slices_Compare_int_int.f k2 t718 x7_2).bind fun t723 => (if t723 < 0 then (impl_LeastSpreading.l0 k2 a1 t718 true (wrap64 (t717 + 1)) (wrap64 (x24_2 + 1)) t713) else (impl_LeastSpreading.l0 k2 a1 x7_2 x8_2 (wrap64 (t717 + 1)) (wrap64 (x24_2 + 1)) t713))) else (impl_LeastSpreading.l0 k2 a1 x7_2 x8_2 (wrap64 (t717 + 1)) (wrap64 (x24_2 + 1)) t713))) else (impl_LeastSpreading.l0 k2 a1 t718 true (wrap64 (t717 + 1)) (wrap64 (x24_2 + 1)) t713)) else (impl_LeastSpreading.l0 k2 a1 x7_2 x8_2 (wrap64 (t717 + 1)) (wrap64 (x24_2 + 1)) t713)) = some (r1, r2) := H
     have A25 := Aside0.mk A250
     clear A250
     by_cases c26 : t721 = t722
     rotate_left
     ·rw [if_neg c26] at H
      have c26b0 : (t721 == t722) = false := beq_eq_false_iff_ne.mpr c26
      have c26b1 : (t721 != t722) = true := bne_iff_ne.mpr c26
      have H' := Aside0.mk H
      clear H
      try go_wp2_with (first | ((with_reducible refine gate_callee (f := 71) rfl ?_);refine goesL_ (some 28) rfl rfl Try.func71 (by kernel_rfl) rfl #[.int .i64 x24_2] rfl mM ?_;(with_reducible refine (impl_setOf.calls k2 x24_2 t718 _ A23.out).mono ?_);rintro e w60 ⟨v719, rfl, ho0, hb⟩;refine ⟨_, rfl, ?_⟩;have n0_ := aM (Kd.R_elder' (by exact rP HO_7.out) (Kd.R_base ho0) hb);have n1_ := aM (Kd.R_elder' (by exact rP HO_717000.out) (Kd.R_base ho0) hb);have n2_ := aM (Kd.R_lower (Kd.R_new' (Kd.R_new' ho0 (Kd.R_lt (by exact rP HO_7.out))) (Kd.R_lt (by exact rP HO_717000.out))) (below_size (by exact bB)));have n3_ := aM (kB hb BK710.out);have n4_ := aM (kB hb BK716.out);have n5_ := aM (below_step (by exact bB) hb);clear HO_7;clear HO_717000;clear BK710;clear BK716;clear HB;have HO_7 := n0_;have HO_717000 := n1_;have HO720 := n2_;have BK710 := n3_;have BK716 := n4_;have HB := n5_;clear n0_ n1_ n2_ n3_ n4_ n5_;(try clear hb);(try clear hb2);(try clear hk);(try clear hi);(try clear ho0)))
      have n0_ := aM (Kd.R_drew HO_7.out)
      have n1_ := aM (Kd.R_drew HO_717000.out)
      have n2_ := aM (Kd.R_drew HO720.out)
      have n3_ := aM (blk_drew BK710.out)
      have n4_ := aM (blk_drew BK716.out)
      have n5_ := aM (below_drew1 HB.out)
      clear HO_7
      clear HO_717000
      clear HO720
      clear BK710
      clear BK716
      clear HB
      have HO_7 := n0_
      have HO_717000 := n1_
      have HO720 := n2_
      have BK710 := n3_
      have BK716 := n4_
      have HB := n5_
      clear n0_ n1_ n2_ n3_ n4_ n5_
      refine start_ (n := 31) (S := fun w' => w'.cell? ⟨gb716, 0, none⟩ = some (.slice Ao18 t713.length co18)) (ds := []) #[false,false,false,false,false,false,false,false,false,false,false,false,false,false,false,false,false,false,false,false,false,false,false,false,false,false,false,false,false,false,false] (by kernel_rfl) rfl rfl ((blk_cell BK716.out 0).trans rfl) (fun hHeld => ?_);refine with_tabW impl_LeastSpreading.tab9 impl_LeastSpreading.bits9 (fun HT_ HW_ => ?_)
      generalize w60.drew = w61 at HO_7 HO_717000 HO720 BK710 BK716 HB hHeld ⊢
      refine pure_ (i := 1) (N := some 30) (v := ?_) (a' := ?_) #[false,true,false,false,false,false,false,false,false,false,false,false,false,false,false,false,false,false,false,false,false,false,false,false,false,false,false,false,false,false,false] rfl rfl (any_of HT_.out (by kernel_rfl)) (fun _ _ _ h => h) (Or.inl ⟨by rfl, ?_⟩) ?_ ?_
      rotate_left
      ·intro w'
       go_simp
       with_reducible rfl
      rotate_left
      ·exact aP
      refine pure_ (i := 2) (N := some 31) (v := ?_) (a' := ?_) #[false,true,true,false,false,false,false,false,false,false,false,false,false,false,false,false,false,false,false,false,false,false,false,false,false,false,false,false,false,false,false] rfl rfl (any_of HT_.out (by kernel_rfl)) (fun _ _ _ h => h) (Or.inl ⟨by rfl, ?_⟩) ?_ ?_
      rotate_left
      ·intro w'
       go_simp
       with_reducible rfl
      rotate_left
      ·exact aP
      refine take_ (i := 0) (N := some 29) (v := ?_) (a' := ?_) #[true,true,true,false,false,false,false,false,false,false,false,false,false,false,false,false,false,false,false,false,false,false,false,false,false,false,false,false,false,false,false] rfl rfl (take_ofW HT_.out HW_.out (by kernel_rfl)) (fun _ _ _ h => h) (Or.inl ⟨by rfl, ?_⟩) hHeld ?_ ?_
      rotate_left
      ·intro w' s0
       go_simp
       with_reducible rfl
      rotate_left
      ·exact aP
      refine take_ (i := 4) (N := some 33) (v := ?_) (a' := ?_) #[true,true,true,false,true,false,false,false,false,false,false,false,false,false,false,false,false,false,false,false,false,false,false,false,false,false,false,false,false,false,false] rfl rfl (take_ofW HT_.out HW_.out (by kernel_rfl)) (fun _ _ _ h => h) (Or.inl ⟨by rfl, ?_⟩) hHeld ?_ ?_
      rotate_left
      ·intro w' s0
       go_simp
       with_reducible rfl
      rotate_left
      ·exact aP
      refine one_ (i := 3) (N := some 32) #[true,true,true,true,true,false,false,false,false,false,false,false,false,false,false,false,false,false,false,false,false,false,false,false,false,false,false,false,false,false,false] rfl rfl (one_of HT_.out (by kernel_rfl)) (by decide) (fun K hK => ?_)
      refine goes_ Try.func97 (by kernel_rfl) rfl #[.agg #[.slice Ao18 t713.length co18], .int .i64 x24_2, .int .i64 a1] (by rfl) rfl rfl mM ?_
      with_reducible refine (impl_net_spread.calls k2 _ _ t713 x24_2 a1 t721 _ ?side1 ?side2 A24.out).mono ?_
      (case side1 => exact cP (Kd.R_reads' HO_717000.out).2.2)
      (case side2 => exact (Kd.R_reads' HO_717000.out).2.1)
      rintro e w62 ⟨rfl, hb⟩
      refine ⟨_, rfl, ?_⟩
      have n0_ := aM (Kd.R_below (by exact rP HO_7.out) hb)
      have n1_ := aM (Kd.R_below (by exact rP HO_717000.out) hb)
      have n2_ := aM (Kd.R_below (by exact rP HO720.out) hb)
      have n3_ := aM (kB hb BK710.out)
      have n4_ := aM (kB hb BK716.out)
      have n5_ := aM (below_step (by exact bB) hb)
      clear HO_7
      clear HO_717000
      clear HO720
      clear BK710
      clear BK716
      clear HB
      have HO_7 := n0_
      have HO_717000 := n1_
      have HO720 := n2_
      have BK710 := n3_
      have BK716 := n4_
      have HB := n5_
      clear n0_ n1_ n2_ n3_ n4_ n5_
      (try clear hb)
      (try clear hb2)
      (try clear hk)
      (try clear hi)
      refine hK.out _ _ ((blk_cell BK716.out 0).trans rfl) (fun hHeld => ?_)
      clear hK K
      refine norm_ (a' := ?_) ?_ ?_
      rotate_left
      ·show Act.put _ (some 32) _ = _
       simp only [Act.put, List.setIfInBounds_toArray, List.set_cons_zero, List.set_cons_succ, i64_w, i32_w]
       rfl
      refine one_ (i := 5) (N := some 34) #[true,true,true,true,true,true,false,false,false,false,false,false,false,false,false,false,false,false,false,false,false,false,false,false,false,false,false,false,false,false,false] rfl rfl (one_of HT_.out (by kernel_rfl)) (by decide) (fun K hK => ?_)
      refine goes_ Try.func73 (by kernel_rfl) rfl #[.agg #[.slice Ao18 t713.length co18]] (by rfl) rfl rfl mM ?_
      with_reducible refine (impl_net_all.calls _ _ t713 t722 _ ?side1 ?side2 A25.out).mono ?_
      (case side1 => exact cP (Kd.R_reads' HO_717000.out).2.2)
      (case side2 => exact (Kd.R_reads' HO_717000.out).2.1)
      rintro e w63 ⟨rfl, hb⟩
      refine ⟨_, rfl, ?_⟩
      have n0_ := aM (Kd.R_below (by exact rP HO_7.out) hb)
      have n1_ := aM (Kd.R_below (by exact rP HO_717000.out) hb)
      have n2_ := aM (Kd.R_below (by exact rP HO720.out) hb)
      have n3_ := aM (kB hb BK710.out)
      have n4_ := aM (kB hb BK716.out)
      have n5_ := aM (below_step (by exact bB) hb)
      clear HO_7
      clear HO_717000
      clear HO720
      clear BK710
      clear BK716
      clear HB
      have HO_7 := n0_
      have HO_717000 := n1_
      have HO720 := n2_
      have BK710 := n3_
      have BK716 := n4_
      have HB := n5_
      clear n0_ n1_ n2_ n3_ n4_ n5_
      (try clear hb)
      (try clear hb2)
      (try clear hk)
      (try clear hi)
      refine hK.out _ _ ((blk_cell BK716.out 0).trans rfl) (fun hHeld => ?_)
      clear hK K
      refine norm_ (a' := ?_) ?_ ?_
      rotate_left
      ·show Act.put _ (some 34) _ = _
       simp only [Act.put, List.setIfInBounds_toArray, List.set_cons_zero, List.set_cons_succ, i64_w, i32_w]
       rfl
      refine pure_ (i := 6) (N := some 35) (v := ?_) (a' := ?_) #[true,true,true,true,true,true,true,false,false,false,false,false,false,false,false,false,false,false,false,false,false,false,false,false,false,false,false,false,false,false,false] rfl rfl (any_of HT_.out (by kernel_rfl)) (fun _ _ _ h => h) (Or.inl ⟨by rfl, ?_⟩) ?_ ?_
      rotate_left
      ·intro w'
       go_simp
       with_reducible rfl
      rotate_left
      ·exact aP
      refine pure_ (i := 7) (N := some 36) (v := ?_) (a' := ?_) #[true,true,true,true,true,true,true,true,false,false,false,false,false,false,false,false,false,false,false,false,false,false,false,false,false,false,false,false,false,false,false] rfl rfl (any_of HT_.out (by kernel_rfl)) (fun _ _ _ h => h) (Or.inl ⟨by rfl, ?_⟩) ?_ ?_
      rotate_left
      ·intro w'
       go_simp
       with_reducible rfl
      rotate_left
      ·exact aP
      refine pure_ (i := 8) (N := some 37) (v := undef) (a' := ?_) #[true,true,true,true,true,true,true,true,true,false,false,false,false,false,false,false,false,false,false,false,false,false,false,false,false,false,false,false,false,false,false] rfl rfl (any_of HT_.out (by kernel_rfl)) (fun _ _ _ h => h) (Or.inr ⟨by rfl, rfl⟩) ?_ ?_
      rotate_left
      ·exact aP
      refine pure_ (i := 9) (N := some 38) (v := undef) (a' := ?_) #[true,true,true,true,true,true,true,true,true,true,false,false,false,false,false,false,false,false,false,false,false,false,false,false,false,false,false,false,false,false,false] rfl rfl (any_of HT_.out (by kernel_rfl)) (fun _ _ _ h => h) (Or.inr ⟨by rfl, rfl⟩) ?_ ?_
      rotate_left
      ·exact aP
      refine pure_ (i := 10) (N := some 39) (v := undef) (a' := ?_) #[true,true,true,true,true,true,true,true,true,true,true,false,false,false,false,false,false,false,false,false,false,false,false,false,false,false,false,false,false,false,false] rfl rfl (any_of HT_.out (by kernel_rfl)) (fun _ _ _ h => h) (Or.inr ⟨by rfl, rfl⟩) ?_ ?_
      rotate_left
      ·exact aP
      refine pure_ (i := 11) (N := some 40) (v := undef) (a' := ?_) #[true,true,true,true,true,true,true,true,true,true,true,true,false,false,false,false,false,false,false,false,false,false,false,false,false,false,false,false,false,false,false] rfl rfl (any_of HT_.out (by kernel_rfl)) (fun _ _ _ h => h) (Or.inr ⟨by rfl, rfl⟩) ?_ ?_
      rotate_left
      ·exact aP
      refine pure_ (i := 12) (N := some 41) (v := undef) (a' := ?_) #[true,true,true,true,true,true,true,true,true,true,true,true,true,false,false,false,false,false,false,false,false,false,false,false,false,false,false,false,false,false,false] rfl rfl (any_of HT_.out (by kernel_rfl)) (fun _ _ _ h => h) (Or.inr ⟨by rfl, rfl⟩) ?_ ?_
      rotate_left
      ·exact aP
      refine pure_ (i := 13) (N := some 42) (v := undef) (a' := ?_) #[true,true,true,true,true,true,true,true,true,true,true,true,true,true,false,false,false,false,false,false,false,false,false,false,false,false,false,false,false,false,false] rfl rfl (any_of HT_.out (by kernel_rfl)) (fun _ _ _ h => h) (Or.inr ⟨by rfl, rfl⟩) ?_ ?_
      rotate_left
      ·exact aP
      refine pure_ (i := 14) (N := some 43) (v := undef) (a' := ?_) #[true,true,true,true,true,true,true,true,true,true,true,true,true,true,true,false,false,false,false,false,false,false,false,false,false,false,false,false,false,false,false] rfl rfl (any_of HT_.out (by kernel_rfl)) (fun _ _ _ h => h) (Or.inr ⟨by rfl, rfl⟩) ?_ ?_
      rotate_left
      ·exact aP
      refine pure_ (i := 15) (N := some 44) (v := undef) (a' := ?_) #[true,true,true,true,true,true,true,true,true,true,true,true,true,true,true,true,false,false,false,false,false,false,false,false,false,false,false,false,false,false,false] rfl rfl (any_of HT_.out (by kernel_rfl)) (fun _ _ _ h => h) (Or.inr ⟨by rfl, rfl⟩) ?_ ?_
      rotate_left
      ·exact aP
      refine pure_ (i := 16) (N := some 45) (v := undef) (a' := ?_) #[true,true,true,true,true,true,true,true,true,true,true,true,true,true,true,true,true,false,false,false,false,false,false,false,false,false,false,false,false,false,false] rfl rfl (any_of HT_.out (by kernel_rfl)) (fun _ _ _ h => h) (Or.inr ⟨by rfl, rfl⟩) ?_ ?_
      rotate_left
      ·exact aP
      refine pure_ (i := 17) (N := some 46) (v := undef) (a' := ?_) #[true,true,true,true,true,true,true,true,true,true,true,true,true,true,true,true,true,true,false,false,false,false,false,false,false,false,false,false,false,false,false] rfl rfl (any_of HT_.out (by kernel_rfl)) (fun _ _ _ h => h) (Or.inr ⟨by rfl, rfl⟩) ?_ ?_
      rotate_left
      ·exact aP
      refine pure_ (i := 18) (N := some 47) (v := undef) (a' := ?_) #[true,true,true,true,true,true,true,true,true,true,true,true,true,true,true,true,true,true,true,false,false,false,false,false,false,false,false,false,false,false,false] rfl rfl (any_of HT_.out (by kernel_rfl)) (fun _ _ _ h => h) (Or.inr ⟨by rfl, rfl⟩) ?_ ?_
      rotate_left
      ·exact aP
      refine pure_ (i := 19) (N := some 48) (v := undef) (a' := ?_) #[true,true,true,true,true,true,true,true,true,true,true,true,true,true,true,true,true,true,true,true,false,false,false,false,false,false,false,false,false,false,false] rfl rfl (any_of HT_.out (by kernel_rfl)) (fun _ _ _ h => h) (Or.inr ⟨by rfl, rfl⟩) ?_ ?_
      rotate_left
      ·exact aP
      refine pure_ (i := 20) (N := some 49) (v := undef) (a' := ?_) #[true,true,true,true,true,true,true,true,true,true,true,true,true,true,true,true,true,true,true,true,true,false,false,false,false,false,false,false,false,false,false] rfl rfl (any_of HT_.out (by kernel_rfl)) (fun _ _ _ h => h) (Or.inr ⟨by rfl, rfl⟩) ?_ ?_
      rotate_left
      ·exact aP
      refine pure_ (i := 21) (N := some 50) (v := undef) (a' := ?_) #[true,true,true,true,true,true,true,true,true,true,true,true,true,true,true,true,true,true,true,true,true,true,false,false,false,false,false,false,false,false,false] rfl rfl (any_of HT_.out (by kernel_rfl)) (fun _ _ _ h => h) (Or.inr ⟨by rfl, rfl⟩) ?_ ?_
      rotate_left
      ·exact aP
      refine pure_ (i := 22) (N := some 51) (v := undef) (a' := ?_) #[true,true,true,true,true,true,true,true,true,true,true,true,true,true,true,true,true,true,true,true,true,true,true,false,false,false,false,false,false,false,false] rfl rfl (any_of HT_.out (by kernel_rfl)) (fun _ _ _ h => h) (Or.inr ⟨by rfl, rfl⟩) ?_ ?_
      rotate_left
      ·exact aP
      refine pure_ (i := 23) (N := some 52) (v := undef) (a' := ?_) #[true,true,true,true,true,true,true,true,true,true,true,true,true,true,true,true,true,true,true,true,true,true,true,true,false,false,false,false,false,false,false] rfl rfl (any_of HT_.out (by kernel_rfl)) (fun _ _ _ h => h) (Or.inr ⟨by rfl, rfl⟩) ?_ ?_
      rotate_left
      ·exact aP
      refine pure_ (i := 24) (N := some 53) (v := undef) (a' := ?_) #[true,true,true,true,true,true,true,true,true,true,true,true,true,true,true,true,true,true,true,true,true,true,true,true,true,false,false,false,false,false,false] rfl rfl (any_of HT_.out (by kernel_rfl)) (fun _ _ _ h => h) (Or.inr ⟨by rfl, rfl⟩) ?_ ?_
      rotate_left
      ·exact aP
      refine pure_ (i := 25) (N := some 54) (v := undef) (a' := ?_) #[true,true,true,true,true,true,true,true,true,true,true,true,true,true,true,true,true,true,true,true,true,true,true,true,true,true,false,false,false,false,false] rfl rfl (any_of HT_.out (by kernel_rfl)) (fun _ _ _ h => h) (Or.inr ⟨by rfl, rfl⟩) ?_ ?_
      rotate_left
      ·exact aP
      refine pure_ (i := 26) (N := some 55) (v := undef) (a' := ?_) #[true,true,true,true,true,true,true,true,true,true,true,true,true,true,true,true,true,true,true,true,true,true,true,true,true,true,true,false,false,false,false] rfl rfl (any_of HT_.out (by kernel_rfl)) (fun _ _ _ h => h) (Or.inr ⟨by rfl, rfl⟩) ?_ ?_
      rotate_left
      ·exact aP
      refine pure_ (i := 27) (N := some 56) (v := undef) (a' := ?_) #[true,true,true,true,true,true,true,true,true,true,true,true,true,true,true,true,true,true,true,true,true,true,true,true,true,true,true,true,false,false,false] rfl rfl (any_of HT_.out (by kernel_rfl)) (fun _ _ _ h => h) (Or.inr ⟨by rfl, rfl⟩) ?_ ?_
      rotate_left
      ·exact aP
      refine pure_ (i := 28) (N := some 57) (v := undef) (a' := ?_) #[true,true,true,true,true,true,true,true,true,true,true,true,true,true,true,true,true,true,true,true,true,true,true,true,true,true,true,true,true,false,false] rfl rfl (any_of HT_.out (by kernel_rfl)) (fun _ _ _ h => h) (Or.inr ⟨by rfl, rfl⟩) ?_ ?_
      rotate_left
      ·exact aP
      refine pure_ (i := 29) (N := some 58) (v := undef) (a' := ?_) #[true,true,true,true,true,true,true,true,true,true,true,true,true,true,true,true,true,true,true,true,true,true,true,true,true,true,true,true,true,true,false] rfl rfl (any_of HT_.out (by kernel_rfl)) (fun _ _ _ h => h) (Or.inr ⟨by rfl, rfl⟩) ?_ ?_
      rotate_left
      ·exact aP
      refine pure_ (i := 30) (N := some 59) (v := ?_) (a' := ?_) #[true,true,true,true,true,true,true,true,true,true,true,true,true,true,true,true,true,true,true,true,true,true,true,true,true,true,true,true,true,true,true] rfl rfl (any_of HT_.out (by kernel_rfl)) (fun _ _ _ h => h) (Or.inl ⟨by rfl, ?_⟩) ?_ ?_
      rotate_left
      ·intro w'
       go_simp
       with_reducible rfl
      rotate_left
      ·exact aP
      refine done_ (done_of HT_.out (by kernel_rfl)) ?_
      try go_wp2
      go_roundg k2
      case measure => have := HJ2.out;have := HK2.out;omega
      case rel => exact ⟨(x7_2), (x8_2), (wrap64 (x24_2 + 1)), (by first | rfl | (simp;done) | (simp [*];done)), (by first | rfl | (simp;done) | (simp [*];done)), H', ⟨by have := HJ2.out;have := HK2.out;omega⟩, ⟨by refine rP ?_;exact Kd.R_mono HO_7.out (fun _ hk => hk.1)⟩, ⟨by refine rP ?_;exact Kd.R_mono HO_717000.out (fun _ hk => hk.1)⟩, ⟨by exact kP BK710.out⟩, ⟨by exact kP BK716.out⟩, ⟨by exact bB⟩⟩
     rw [if_pos c26] at H
     have c26b0 : (t721 == t722) = true := beq_iff_eq.mpr c26
     have c26b1 : (t721 != t722) = false := bne_eq_false_iff_eq.mpr c26
     clear c26
     by_cases c27 : x8_2 = true
     rotate_left
     ·replace c27 := Bool.eq_false_iff.mpr c27
      subst c27
      have H1 : (impl_LeastSpreading.l0 k2 a1 t718 true (wrap64 (t717 + 1)) (wrap64 (x24_2 + 1)) t713) = some (r1, r2) := by rw [if_neg (show ¬ (false = true) by decide)] at H;exact H
      clear H
      have H := H1
      clear H1
      have H' := Aside0.mk H
      clear H
      try go_wp2_with (first | ((with_reducible refine gate_callee (f := 71) rfl ?_);refine goesL_ (some 28) rfl rfl Try.func71 (by kernel_rfl) rfl #[.int .i64 x24_2] rfl mM ?_;(with_reducible refine (impl_setOf.calls k2 x24_2 t718 _ A23.out).mono ?_);rintro e w56 ⟨v719, rfl, ho0, hb⟩;refine ⟨_, rfl, ?_⟩;have n0_ := aM (Kd.R_elder' (by exact rP HO_7.out) (Kd.R_base ho0) hb);have n1_ := aM (Kd.R_elder' (by exact rP HO_717000.out) (Kd.R_base ho0) hb);have n2_ := aM (Kd.R_lower (Kd.R_new' (Kd.R_new' ho0 (Kd.R_lt (by exact rP HO_7.out))) (Kd.R_lt (by exact rP HO_717000.out))) (below_size (by exact bB)));have n3_ := aM (kB hb BK710.out);have n4_ := aM (kB hb BK716.out);have n5_ := aM (below_step (by exact bB) hb);clear HO_7;clear HO_717000;clear BK710;clear BK716;clear HB;have HO_7 := n0_;have HO_717000 := n1_;have HO720 := n2_;have BK710 := n3_;have BK716 := n4_;have HB := n5_;clear n0_ n1_ n2_ n3_ n4_ n5_;(try clear hb);(try clear hb2);(try clear hk);(try clear hi);(try clear ho0)))
      have n0_ := aM (Kd.R_drew HO_7.out)
      have n1_ := aM (Kd.R_drew HO_717000.out)
      have n2_ := aM (Kd.R_drew HO720.out)
      have n3_ := aM (blk_drew BK710.out)
      have n4_ := aM (blk_drew BK716.out)
      have n5_ := aM (below_drew1 HB.out)
      clear HO_7
      clear HO_717000
      clear HO720
      clear BK710
      clear BK716
      clear HB
      have HO_7 := n0_
      have HO_717000 := n1_
      have HO720 := n2_
      have BK710 := n3_
      have BK716 := n4_
      have HB := n5_
      clear n0_ n1_ n2_ n3_ n4_ n5_
      refine start_ (n := 31) (S := fun w' => w'.cell? ⟨gb716, 0, none⟩ = some (.slice Ao18 t713.length co18)) (ds := []) #[false,false,false,false,false,false,false,false,false,false,false,false,false,false,false,false,false,false,false,false,false,false,false,false,false,false,false,false,false,false,false] (by kernel_rfl) rfl rfl ((blk_cell BK716.out 0).trans rfl) (fun hHeld => ?_);refine with_tabW impl_LeastSpreading.tab9 impl_LeastSpreading.bits9 (fun HT_ HW_ => ?_)
      generalize w56.drew = w57 at HO_7 HO_717000 HO720 BK710 BK716 HB hHeld ⊢
      refine pure_ (i := 1) (N := some 30) (v := ?_) (a' := ?_) #[false,true,false,false,false,false,false,false,false,false,false,false,false,false,false,false,false,false,false,false,false,false,false,false,false,false,false,false,false,false,false] rfl rfl (any_of HT_.out (by kernel_rfl)) (fun _ _ _ h => h) (Or.inl ⟨by rfl, ?_⟩) ?_ ?_
      rotate_left
      ·intro w'
       go_simp
       with_reducible rfl
      rotate_left
      ·exact aP
      refine pure_ (i := 2) (N := some 31) (v := ?_) (a' := ?_) #[false,true,true,false,false,false,false,false,false,false,false,false,false,false,false,false,false,false,false,false,false,false,false,false,false,false,false,false,false,false,false] rfl rfl (any_of HT_.out (by kernel_rfl)) (fun _ _ _ h => h) (Or.inl ⟨by rfl, ?_⟩) ?_ ?_
      rotate_left
      ·intro w'
       go_simp
       with_reducible rfl
      rotate_left
      ·exact aP
      refine take_ (i := 0) (N := some 29) (v := ?_) (a' := ?_) #[true,true,true,false,false,false,false,false,false,false,false,false,false,false,false,false,false,false,false,false,false,false,false,false,false,false,false,false,false,false,false] rfl rfl (take_ofW HT_.out HW_.out (by kernel_rfl)) (fun _ _ _ h => h) (Or.inl ⟨by rfl, ?_⟩) hHeld ?_ ?_
      rotate_left
      ·intro w' s0
       go_simp
       with_reducible rfl
      rotate_left
      ·exact aP
      refine take_ (i := 4) (N := some 33) (v := ?_) (a' := ?_) #[true,true,true,false,true,false,false,false,false,false,false,false,false,false,false,false,false,false,false,false,false,false,false,false,false,false,false,false,false,false,false] rfl rfl (take_ofW HT_.out HW_.out (by kernel_rfl)) (fun _ _ _ h => h) (Or.inl ⟨by rfl, ?_⟩) hHeld ?_ ?_
      rotate_left
      ·intro w' s0
       go_simp
       with_reducible rfl
      rotate_left
      ·exact aP
      refine one_ (i := 3) (N := some 32) #[true,true,true,true,true,false,false,false,false,false,false,false,false,false,false,false,false,false,false,false,false,false,false,false,false,false,false,false,false,false,false] rfl rfl (one_of HT_.out (by kernel_rfl)) (by decide) (fun K hK => ?_)
      refine goes_ Try.func97 (by kernel_rfl) rfl #[.agg #[.slice Ao18 t713.length co18], .int .i64 x24_2, .int .i64 a1] (by rfl) rfl rfl mM ?_
      with_reducible refine (impl_net_spread.calls k2 _ _ t713 x24_2 a1 t721 _ ?side1 ?side2 A24.out).mono ?_
      (case side1 => exact cP (Kd.R_reads' HO_717000.out).2.2)
      (case side2 => exact (Kd.R_reads' HO_717000.out).2.1)
      rintro e w58 ⟨rfl, hb⟩
      refine ⟨_, rfl, ?_⟩
      have n0_ := aM (Kd.R_below (by exact rP HO_7.out) hb)
      have n1_ := aM (Kd.R_below (by exact rP HO_717000.out) hb)
      have n2_ := aM (Kd.R_below (by exact rP HO720.out) hb)
      have n3_ := aM (kB hb BK710.out)
      have n4_ := aM (kB hb BK716.out)
      have n5_ := aM (below_step (by exact bB) hb)
      clear HO_7
      clear HO_717000
      clear HO720
      clear BK710
      clear BK716
      clear HB
      have HO_7 := n0_
      have HO_717000 := n1_
      have HO720 := n2_
      have BK710 := n3_
      have BK716 := n4_
      have HB := n5_
      clear n0_ n1_ n2_ n3_ n4_ n5_
      (try clear hb)
      (try clear hb2)
      (try clear hk)
      (try clear hi)
      refine hK.out _ _ ((blk_cell BK716.out 0).trans rfl) (fun hHeld => ?_)
      clear hK K
      refine norm_ (a' := ?_) ?_ ?_
      rotate_left
      ·show Act.put _ (some 32) _ = _
       simp only [Act.put, List.setIfInBounds_toArray, List.set_cons_zero, List.set_cons_succ, i64_w, i32_w]
       rfl
      refine one_ (i := 5) (N := some 34) #[true,true,true,true,true,true,false,false,false,false,false,false,false,false,false,false,false,false,false,false,false,false,false,false,false,false,false,false,false,false,false] rfl rfl (one_of HT_.out (by kernel_rfl)) (by decide) (fun K hK => ?_)
      refine goes_ Try.func73 (by kernel_rfl) rfl #[.agg #[.slice Ao18 t713.length co18]] (by rfl) rfl rfl mM ?_
      with_reducible refine (impl_net_all.calls _ _ t713 t722 _ ?side1 ?side2 A25.out).mono ?_
      (case side1 => exact cP (Kd.R_reads' HO_717000.out).2.2)
      (case side2 => exact (Kd.R_reads' HO_717000.out).2.1)
      rintro e w59 ⟨rfl, hb⟩
      refine ⟨_, rfl, ?_⟩
      have n0_ := aM (Kd.R_below (by exact rP HO_7.out) hb)
      have n1_ := aM (Kd.R_below (by exact rP HO_717000.out) hb)
      have n2_ := aM (Kd.R_below (by exact rP HO720.out) hb)
      have n3_ := aM (kB hb BK710.out)
      have n4_ := aM (kB hb BK716.out)
      have n5_ := aM (below_step (by exact bB) hb)
      clear HO_7
      clear HO_717000
      clear HO720
      clear BK710
      clear BK716
      clear HB
      have HO_7 := n0_
      have HO_717000 := n1_
      have HO720 := n2_
      have BK710 := n3_
      have BK716 := n4_
      have HB := n5_
      clear n0_ n1_ n2_ n3_ n4_ n5_
      (try clear hb)
      (try clear hb2)
      (try clear hk)
      (try clear hi)
      refine hK.out _ _ ((blk_cell BK716.out 0).trans rfl) (fun hHeld => ?_)
      clear hK K
      refine norm_ (a' := ?_) ?_ ?_
      rotate_left
      ·show Act.put _ (some 34) _ = _
       simp only [Act.put, List.setIfInBounds_toArray, List.set_cons_zero, List.set_cons_succ, i64_w, i32_w]
       rfl
      refine pure_ (i := 6) (N := some 35) (v := ?_) (a' := ?_) #[true,true,true,true,true,true,true,false,false,false,false,false,false,false,false,false,false,false,false,false,false,false,false,false,false,false,false,false,false,false,false] rfl rfl (any_of HT_.out (by kernel_rfl)) (fun _ _ _ h => h) (Or.inl ⟨by rfl, ?_⟩) ?_ ?_
      rotate_left
      ·intro w'
       go_simp
       with_reducible rfl
      rotate_left
      ·exact aP
      refine pure_ (i := 7) (N := some 36) (v := ?_) (a' := ?_) #[true,true,true,true,true,true,true,true,false,false,false,false,false,false,false,false,false,false,false,false,false,false,false,false,false,false,false,false,false,false,false] rfl rfl (any_of HT_.out (by kernel_rfl)) (fun _ _ _ h => h) (Or.inl ⟨by rfl, ?_⟩) ?_ ?_
      rotate_left
      ·intro w'
       go_simp
       with_reducible rfl
      rotate_left
      ·exact aP
      refine pure_ (i := 8) (N := some 37) (v := ?_) (a' := ?_) #[true,true,true,true,true,true,true,true,true,false,false,false,false,false,false,false,false,false,false,false,false,false,false,false,false,false,false,false,false,false,false] rfl rfl (any_of HT_.out (by kernel_rfl)) (fun _ _ _ h => h) (Or.inl ⟨by rfl, ?_⟩) ?_ ?_
      rotate_left
      ·intro w'
       go_simp
       with_reducible rfl
      rotate_left
      ·exact aP
      refine pure_ (i := 9) (N := some 38) (v := ?_) (a' := ?_) #[true,true,true,true,true,true,true,true,true,true,false,false,false,false,false,false,false,false,false,false,false,false,false,false,false,false,false,false,false,false,false] rfl rfl (any_of HT_.out (by kernel_rfl)) (fun _ _ _ h => h) (Or.inl ⟨by rfl, ?_⟩) ?_ ?_
      rotate_left
      ·intro w'
       go_simp
       with_reducible rfl
      rotate_left
      ·exact aP
      refine pure_ (i := 10) (N := some 39) (v := ?_) (a' := ?_) #[true,true,true,true,true,true,true,true,true,true,true,false,false,false,false,false,false,false,false,false,false,false,false,false,false,false,false,false,false,false,false] rfl rfl (any_of HT_.out (by kernel_rfl)) (fun _ _ _ h => h) (Or.inl ⟨by rfl, ?_⟩) ?_ ?_
      rotate_left
      ·intro w'
       go_simp
       with_reducible rfl
      rotate_left
      ·exact aP
      refine pure_ (i := 11) (N := some 40) (v := undef) (a' := ?_) #[true,true,true,true,true,true,true,true,true,true,true,true,false,false,false,false,false,false,false,false,false,false,false,false,false,false,false,false,false,false,false] rfl rfl (any_of HT_.out (by kernel_rfl)) (fun _ _ _ h => h) (Or.inr ⟨by rfl, rfl⟩) ?_ ?_
      rotate_left
      ·exact aP
      refine pure_ (i := 12) (N := some 41) (v := undef) (a' := ?_) #[true,true,true,true,true,true,true,true,true,true,true,true,true,false,false,false,false,false,false,false,false,false,false,false,false,false,false,false,false,false,false] rfl rfl (any_of HT_.out (by kernel_rfl)) (fun _ _ _ h => h) (Or.inr ⟨by rfl, rfl⟩) ?_ ?_
      rotate_left
      ·exact aP
      refine pure_ (i := 13) (N := some 42) (v := undef) (a' := ?_) #[true,true,true,true,true,true,true,true,true,true,true,true,true,true,false,false,false,false,false,false,false,false,false,false,false,false,false,false,false,false,false] rfl rfl (any_of HT_.out (by kernel_rfl)) (fun _ _ _ h => h) (Or.inr ⟨by rfl, rfl⟩) ?_ ?_
      rotate_left
      ·exact aP
      refine pure_ (i := 14) (N := some 43) (v := undef) (a' := ?_) #[true,true,true,true,true,true,true,true,true,true,true,true,true,true,true,false,false,false,false,false,false,false,false,false,false,false,false,false,false,false,false] rfl rfl (any_of HT_.out (by kernel_rfl)) (fun _ _ _ h => h) (Or.inr ⟨by rfl, rfl⟩) ?_ ?_
      rotate_left
      ·exact aP
      refine pure_ (i := 15) (N := some 44) (v := undef) (a' := ?_) #[true,true,true,true,true,true,true,true,true,true,true,true,true,true,true,true,false,false,false,false,false,false,false,false,false,false,false,false,false,false,false] rfl rfl (any_of HT_.out (by kernel_rfl)) (fun _ _ _ h => h) (Or.inr ⟨by rfl, rfl⟩) ?_ ?_
      rotate_left
      ·exact aP
      refine pure_ (i := 16) (N := some 45) (v := ?_) (a' := ?_) #[true,true,true,true,true,true,true,true,true,true,true,true,true,true,true,true,true,false,false,false,false,false,false,false,false,false,false,false,false,false,false] rfl rfl (any_of HT_.out (by kernel_rfl)) (fun _ _ _ h => h) (Or.inl ⟨by rfl, ?_⟩) ?_ ?_
      rotate_left
      ·intro w'
       go_simp
       with_reducible rfl
      rotate_left
      ·exact aP
      refine pure_ (i := 17) (N := some 46) (v := ?_) (a' := ?_) #[true,true,true,true,true,true,true,true,true,true,true,true,true,true,true,true,true,true,false,false,false,false,false,false,false,false,false,false,false,false,false] rfl rfl (any_of HT_.out (by kernel_rfl)) (fun _ _ _ h => h) (Or.inl ⟨by rfl, ?_⟩) ?_ ?_
      rotate_left
      ·intro w'
       go_simp
       with_reducible rfl
      rotate_left
      ·exact aP
      refine pure_ (i := 18) (N := some 47) (v := undef) (a' := ?_) #[true,true,true,true,true,true,true,true,true,true,true,true,true,true,true,true,true,true,true,false,false,false,false,false,false,false,false,false,false,false,false] rfl rfl (any_of HT_.out (by kernel_rfl)) (fun _ _ _ h => h) (Or.inr ⟨by rfl, rfl⟩) ?_ ?_
      rotate_left
      ·exact aP
      refine pure_ (i := 19) (N := some 48) (v := undef) (a' := ?_) #[true,true,true,true,true,true,true,true,true,true,true,true,true,true,true,true,true,true,true,true,false,false,false,false,false,false,false,false,false,false,false] rfl rfl (any_of HT_.out (by kernel_rfl)) (fun _ _ _ h => h) (Or.inr ⟨by rfl, rfl⟩) ?_ ?_
      rotate_left
      ·exact aP
      refine pure_ (i := 20) (N := some 49) (v := undef) (a' := ?_) #[true,true,true,true,true,true,true,true,true,true,true,true,true,true,true,true,true,true,true,true,true,false,false,false,false,false,false,false,false,false,false] rfl rfl (any_of HT_.out (by kernel_rfl)) (fun _ _ _ h => h) (Or.inr ⟨by rfl, rfl⟩) ?_ ?_
      rotate_left
      ·exact aP
      refine pure_ (i := 21) (N := some 50) (v := undef) (a' := ?_) #[true,true,true,true,true,true,true,true,true,true,true,true,true,true,true,true,true,true,true,true,true,true,false,false,false,false,false,false,false,false,false] rfl rfl (any_of HT_.out (by kernel_rfl)) (fun _ _ _ h => h) (Or.inr ⟨by rfl, rfl⟩) ?_ ?_
      rotate_left
      ·exact aP
      refine pure_ (i := 22) (N := some 51) (v := undef) (a' := ?_) #[true,true,true,true,true,true,true,true,true,true,true,true,true,true,true,true,true,true,true,true,true,true,true,false,false,false,false,false,false,false,false] rfl rfl (any_of HT_.out (by kernel_rfl)) (fun _ _ _ h => h) (Or.inr ⟨by rfl, rfl⟩) ?_ ?_
      rotate_left
      ·exact aP
      refine pure_ (i := 23) (N := some 52) (v := undef) (a' := ?_) #[true,true,true,true,true,true,true,true,true,true,true,true,true,true,true,true,true,true,true,true,true,true,true,true,false,false,false,false,false,false,false] rfl rfl (any_of HT_.out (by kernel_rfl)) (fun _ _ _ h => h) (Or.inr ⟨by rfl, rfl⟩) ?_ ?_
      rotate_left
      ·exact aP
      refine pure_ (i := 24) (N := some 53) (v := undef) (a' := ?_) #[true,true,true,true,true,true,true,true,true,true,true,true,true,true,true,true,true,true,true,true,true,true,true,true,true,false,false,false,false,false,false] rfl rfl (any_of HT_.out (by kernel_rfl)) (fun _ _ _ h => h) (Or.inr ⟨by rfl, rfl⟩) ?_ ?_
      rotate_left
      ·exact aP
      refine pure_ (i := 25) (N := some 54) (v := undef) (a' := ?_) #[true,true,true,true,true,true,true,true,true,true,true,true,true,true,true,true,true,true,true,true,true,true,true,true,true,true,false,false,false,false,false] rfl rfl (any_of HT_.out (by kernel_rfl)) (fun _ _ _ h => h) (Or.inr ⟨by rfl, rfl⟩) ?_ ?_
      rotate_left
      ·exact aP
      refine pure_ (i := 26) (N := some 55) (v := undef) (a' := ?_) #[true,true,true,true,true,true,true,true,true,true,true,true,true,true,true,true,true,true,true,true,true,true,true,true,true,true,true,false,false,false,false] rfl rfl (any_of HT_.out (by kernel_rfl)) (fun _ _ _ h => h) (Or.inr ⟨by rfl, rfl⟩) ?_ ?_
      rotate_left
      ·exact aP
      refine pure_ (i := 27) (N := some 56) (v := undef) (a' := ?_) #[true,true,true,true,true,true,true,true,true,true,true,true,true,true,true,true,true,true,true,true,true,true,true,true,true,true,true,true,false,false,false] rfl rfl (any_of HT_.out (by kernel_rfl)) (fun _ _ _ h => h) (Or.inr ⟨by rfl, rfl⟩) ?_ ?_
      rotate_left
      ·exact aP
      refine pure_ (i := 28) (N := some 57) (v := undef) (a' := ?_) #[true,true,true,true,true,true,true,true,true,true,true,true,true,true,true,true,true,true,true,true,true,true,true,true,true,true,true,true,true,false,false] rfl rfl (any_of HT_.out (by kernel_rfl)) (fun _ _ _ h => h) (Or.inr ⟨by rfl, rfl⟩) ?_ ?_
      rotate_left
      ·exact aP
      refine pure_ (i := 29) (N := some 58) (v := ?_) (a' := ?_) #[true,true,true,true,true,true,true,true,true,true,true,true,true,true,true,true,true,true,true,true,true,true,true,true,true,true,true,true,true,true,false] rfl rfl (any_of HT_.out (by kernel_rfl)) (fun _ _ _ h => h) (Or.inl ⟨by rfl, ?_⟩) ?_ ?_
      rotate_left
      ·intro w'
       go_simp
       with_reducible rfl
      rotate_left
      ·exact aP
      refine pure_ (i := 30) (N := some 59) (v := ?_) (a' := ?_) #[true,true,true,true,true,true,true,true,true,true,true,true,true,true,true,true,true,true,true,true,true,true,true,true,true,true,true,true,true,true,true] rfl rfl (any_of HT_.out (by kernel_rfl)) (fun _ _ _ h => h) (Or.inl ⟨by rfl, ?_⟩) ?_ ?_
      rotate_left
      ·intro w'
       go_simp
       with_reducible rfl
      rotate_left
      ·exact aP
      refine done_ (done_of HT_.out (by kernel_rfl)) ?_
      try go_wp2
      go_roundg k2
      case measure => have := HJ2.out;have := HK2.out;omega
      case rel => exact ⟨(t718), (true), (wrap64 (x24_2 + 1)), (by first | rfl | (simp;done) | (simp [*];done)), (by first | rfl | (simp;done) | (simp [*];done)), H', ⟨by have := HJ2.out;have := HK2.out;omega⟩, ⟨by refine rP ?_;exact Kd.R_mono HO720.out (fun _ hk => hk.2)⟩, ⟨by refine rP ?_;exact Kd.R_mono HO_717000.out (fun _ hk => hk.2)⟩, ⟨by exact kP BK710.out⟩, ⟨by exact kP BK716.out⟩, ⟨by exact bB⟩⟩
     subst c27
     have H1 : (if (t718.length : Int) < (x7_2.length : Int) then (impl_LeastSpreading.l0 k2 a1 t718 true (wrap64 (t717 + 1)) (wrap64 (x24_2 + 1)) t713) else (if (t718.length : Int) = (x7_2.length : Int) then ((slices_Compare_int_int.f k2 t718 x7_2).bind fun t723 => (if t723 < 0 then (impl_LeastSpreading.l0 k2 a1 t718 true (wrap64 (t717 + 1)) (wrap64 (x24_2 + 1)) t713) else (impl_LeastSpreading.l0 k2 a1 x7_2 true (wrap64 (t717 + 1)) (wrap64 (x24_2 + 1)) t713))) else (impl_LeastSpreading.l0 k2 a1 x7_2 true (wrap64 (t717 + 1)) (wrap64 (x24_2 + 1)) t713))) = some (r1, r2) := by rw [if_pos rfl] at H;exact H
     clear H
     have H := H1
     clear H1
     by_cases c28 : (t718.length : Int) < (x7_2.length : Int)
     ·rw [if_pos c28] at H
      have c28b0 : decide ((t718.length : Int) < (x7_2.length : Int)) = true := decide_eq_true c28
      have c28b1 : decide (t718.length < x7_2.length) = true := decide_eq_true (Int.ofNat_lt.mp c28)
      clear c28
      have H' := Aside0.mk H
      clear H
      try go_wp2_with (first | ((with_reducible refine gate_callee (f := 71) rfl ?_);refine goesL_ (some 28) rfl rfl Try.func71 (by kernel_rfl) rfl #[.int .i64 x24_2] rfl mM ?_;(with_reducible refine (impl_setOf.calls k2 x24_2 t718 _ A23.out).mono ?_);rintro e w29 ⟨v719, rfl, ho0, hb⟩;refine ⟨_, rfl, ?_⟩;have n0_ := aM (Kd.R_elder' (by exact rP HO_7.out) (Kd.R_base ho0) hb);have n1_ := aM (Kd.R_elder' (by exact rP HO_717000.out) (Kd.R_base ho0) hb);have n2_ := aM (Kd.R_lower (Kd.R_new' (Kd.R_new' ho0 (Kd.R_lt (by exact rP HO_7.out))) (Kd.R_lt (by exact rP HO_717000.out))) (below_size (by exact bB)));have n3_ := aM (kB hb BK710.out);have n4_ := aM (kB hb BK716.out);have n5_ := aM (below_step (by exact bB) hb);clear HO_7;clear HO_717000;clear BK710;clear BK716;clear HB;have HO_7 := n0_;have HO_717000 := n1_;have HO720 := n2_;have BK710 := n3_;have BK716 := n4_;have HB := n5_;clear n0_ n1_ n2_ n3_ n4_ n5_;(try clear hb);(try clear hb2);(try clear hk);(try clear hi);(try clear ho0)))
      have n0_ := aM (Kd.R_drew HO_7.out)
      have n1_ := aM (Kd.R_drew HO_717000.out)
      have n2_ := aM (Kd.R_drew HO720.out)
      have n3_ := aM (blk_drew BK710.out)
      have n4_ := aM (blk_drew BK716.out)
      have n5_ := aM (below_drew1 HB.out)
      clear HO_7
      clear HO_717000
      clear HO720
      clear BK710
      clear BK716
      clear HB
      have HO_7 := n0_
      have HO_717000 := n1_
      have HO720 := n2_
      have BK710 := n3_
      have BK716 := n4_
      have HB := n5_
      clear n0_ n1_ n2_ n3_ n4_ n5_
      refine start_ (n := 31) (S := fun w' => w'.cell? ⟨gb716, 0, none⟩ = some (.slice Ao18 t713.length co18)) (ds := []) #[false,false,false,false,false,false,false,false,false,false,false,false,false,false,false,false,false,false,false,false,false,false,false,false,false,false,false,false,false,false,false] (by kernel_rfl) rfl rfl ((blk_cell BK716.out 0).trans rfl) (fun hHeld => ?_);refine with_tabW impl_LeastSpreading.tab9 impl_LeastSpreading.bits9 (fun HT_ HW_ => ?_)
      generalize w29.drew = w30 at HO_7 HO_717000 HO720 BK710 BK716 HB hHeld ⊢
      refine pure_ (i := 1) (N := some 30) (v := ?_) (a' := ?_) #[false,true,false,false,false,false,false,false,false,false,false,false,false,false,false,false,false,false,false,false,false,false,false,false,false,false,false,false,false,false,false] rfl rfl (any_of HT_.out (by kernel_rfl)) (fun _ _ _ h => h) (Or.inl ⟨by rfl, ?_⟩) ?_ ?_
      rotate_left
      ·intro w'
       go_simp
       with_reducible rfl
      rotate_left
      ·exact aP
      refine pure_ (i := 2) (N := some 31) (v := ?_) (a' := ?_) #[false,true,true,false,false,false,false,false,false,false,false,false,false,false,false,false,false,false,false,false,false,false,false,false,false,false,false,false,false,false,false] rfl rfl (any_of HT_.out (by kernel_rfl)) (fun _ _ _ h => h) (Or.inl ⟨by rfl, ?_⟩) ?_ ?_
      rotate_left
      ·intro w'
       go_simp
       with_reducible rfl
      rotate_left
      ·exact aP
      refine take_ (i := 0) (N := some 29) (v := ?_) (a' := ?_) #[true,true,true,false,false,false,false,false,false,false,false,false,false,false,false,false,false,false,false,false,false,false,false,false,false,false,false,false,false,false,false] rfl rfl (take_ofW HT_.out HW_.out (by kernel_rfl)) (fun _ _ _ h => h) (Or.inl ⟨by rfl, ?_⟩) hHeld ?_ ?_
      rotate_left
      ·intro w' s0
       go_simp
       with_reducible rfl
      rotate_left
      ·exact aP
      refine take_ (i := 4) (N := some 33) (v := ?_) (a' := ?_) #[true,true,true,false,true,false,false,false,false,false,false,false,false,false,false,false,false,false,false,false,false,false,false,false,false,false,false,false,false,false,false] rfl rfl (take_ofW HT_.out HW_.out (by kernel_rfl)) (fun _ _ _ h => h) (Or.inl ⟨by rfl, ?_⟩) hHeld ?_ ?_
      rotate_left
      ·intro w' s0
       go_simp
       with_reducible rfl
      rotate_left
      ·exact aP
      refine one_ (i := 3) (N := some 32) #[true,true,true,true,true,false,false,false,false,false,false,false,false,false,false,false,false,false,false,false,false,false,false,false,false,false,false,false,false,false,false] rfl rfl (one_of HT_.out (by kernel_rfl)) (by decide) (fun K hK => ?_)
      refine goes_ Try.func97 (by kernel_rfl) rfl #[.agg #[.slice Ao18 t713.length co18], .int .i64 x24_2, .int .i64 a1] (by rfl) rfl rfl mM ?_
      with_reducible refine (impl_net_spread.calls k2 _ _ t713 x24_2 a1 t721 _ ?side1 ?side2 A24.out).mono ?_
      (case side1 => exact cP (Kd.R_reads' HO_717000.out).2.2)
      (case side2 => exact (Kd.R_reads' HO_717000.out).2.1)
      rintro e w31 ⟨rfl, hb⟩
      refine ⟨_, rfl, ?_⟩
      have n0_ := aM (Kd.R_below (by exact rP HO_7.out) hb)
      have n1_ := aM (Kd.R_below (by exact rP HO_717000.out) hb)
      have n2_ := aM (Kd.R_below (by exact rP HO720.out) hb)
      have n3_ := aM (kB hb BK710.out)
      have n4_ := aM (kB hb BK716.out)
      have n5_ := aM (below_step (by exact bB) hb)
      clear HO_7
      clear HO_717000
      clear HO720
      clear BK710
      clear BK716
      clear HB
      have HO_7 := n0_
      have HO_717000 := n1_
      have HO720 := n2_
      have BK710 := n3_
      have BK716 := n4_
      have HB := n5_
      clear n0_ n1_ n2_ n3_ n4_ n5_
      (try clear hb)
      (try clear hb2)
      (try clear hk)
      (try clear hi)
      refine hK.out _ _ ((blk_cell BK716.out 0).trans rfl) (fun hHeld => ?_)
      clear hK K
      refine norm_ (a' := ?_) ?_ ?_
      rotate_left
      ·show Act.put _ (some 32) _ = _
       simp only [Act.put, List.setIfInBounds_toArray, List.set_cons_zero, List.set_cons_succ, i64_w, i32_w]
       rfl
      refine one_ (i := 5) (N := some 34) #[true,true,true,true,true,true,false,false,false,false,false,false,false,false,false,false,false,false,false,false,false,false,false,false,false,false,false,false,false,false,false] rfl rfl (one_of HT_.out (by kernel_rfl)) (by decide) (fun K hK => ?_)
      refine goes_ Try.func73 (by kernel_rfl) rfl #[.agg #[.slice Ao18 t713.length co18]] (by rfl) rfl rfl mM ?_
      with_reducible refine (impl_net_all.calls _ _ t713 t722 _ ?side1 ?side2 A25.out).mono ?_
      (case side1 => exact cP (Kd.R_reads' HO_717000.out).2.2)
      (case side2 => exact (Kd.R_reads' HO_717000.out).2.1)
      rintro e w32 ⟨rfl, hb⟩
      refine ⟨_, rfl, ?_⟩
      have n0_ := aM (Kd.R_below (by exact rP HO_7.out) hb)
      have n1_ := aM (Kd.R_below (by exact rP HO_717000.out) hb)
      have n2_ := aM (Kd.R_below (by exact rP HO720.out) hb)
      have n3_ := aM (kB hb BK710.out)
      have n4_ := aM (kB hb BK716.out)
      have n5_ := aM (below_step (by exact bB) hb)
      clear HO_7
      clear HO_717000
      clear HO720
      clear BK710
      clear BK716
      clear HB
      have HO_7 := n0_
      have HO_717000 := n1_
      have HO720 := n2_
      have BK710 := n3_
      have BK716 := n4_
      have HB := n5_
      clear n0_ n1_ n2_ n3_ n4_ n5_
      (try clear hb)
      (try clear hb2)
      (try clear hk)
      (try clear hi)
      obtain ⟨Ao33, co33, eo33⟩ := Kd.R_slice HO720.out
      (first | subst eo33 | (injection eo33 with f1_ f2_ f3_;have f4_ := f1_.symm;have f5_ := f3_.symm;clear f1_ f2_ f3_;subst f4_;subst f5_))
      obtain ⟨Ao34, co34, eo34⟩ := Kd.R_slice HO_7.out
      (first | subst eo34 | (injection eo34 with f1_ f2_ f3_;have f4_ := f1_.symm;have f5_ := f3_.symm;clear f1_ f2_ f3_;subst f4_;subst f5_))
      refine hK.out _ _ ((blk_cell BK716.out 0).trans rfl) (fun hHeld => ?_)
      clear hK K
      refine norm_ (a' := ?_) ?_ ?_
      rotate_left
      ·show Act.put _ (some 34) _ = _
       simp only [Act.put, List.setIfInBounds_toArray, List.set_cons_zero, List.set_cons_succ, i64_w, i32_w]
       rfl
      refine pure_ (i := 6) (N := some 35) (v := ?_) (a' := ?_) #[true,true,true,true,true,true,true,false,false,false,false,false,false,false,false,false,false,false,false,false,false,false,false,false,false,false,false,false,false,false,false] rfl rfl (any_of HT_.out (by kernel_rfl)) (fun _ _ _ h => h) (Or.inl ⟨by rfl, ?_⟩) ?_ ?_
      rotate_left
      ·intro w'
       go_simp
       with_reducible rfl
      rotate_left
      ·exact aP
      refine pure_ (i := 7) (N := some 36) (v := ?_) (a' := ?_) #[true,true,true,true,true,true,true,true,false,false,false,false,false,false,false,false,false,false,false,false,false,false,false,false,false,false,false,false,false,false,false] rfl rfl (any_of HT_.out (by kernel_rfl)) (fun _ _ _ h => h) (Or.inl ⟨by rfl, ?_⟩) ?_ ?_
      rotate_left
      ·intro w'
       go_simp
       with_reducible rfl
      rotate_left
      ·exact aP
      refine pure_ (i := 8) (N := some 37) (v := ?_) (a' := ?_) #[true,true,true,true,true,true,true,true,true,false,false,false,false,false,false,false,false,false,false,false,false,false,false,false,false,false,false,false,false,false,false] rfl rfl (any_of HT_.out (by kernel_rfl)) (fun _ _ _ h => h) (Or.inl ⟨by rfl, ?_⟩) ?_ ?_
      rotate_left
      ·intro w'
       go_simp
       with_reducible rfl
      rotate_left
      ·exact aP
      refine pure_ (i := 9) (N := some 38) (v := ?_) (a' := ?_) #[true,true,true,true,true,true,true,true,true,true,false,false,false,false,false,false,false,false,false,false,false,false,false,false,false,false,false,false,false,false,false] rfl rfl (any_of HT_.out (by kernel_rfl)) (fun _ _ _ h => h) (Or.inl ⟨by rfl, ?_⟩) ?_ ?_
      rotate_left
      ·intro w'
       go_simp
       with_reducible rfl
      rotate_left
      ·exact aP
      refine pure_ (i := 10) (N := some 39) (v := ?_) (a' := ?_) #[true,true,true,true,true,true,true,true,true,true,true,false,false,false,false,false,false,false,false,false,false,false,false,false,false,false,false,false,false,false,false] rfl rfl (any_of HT_.out (by kernel_rfl)) (fun _ _ _ h => h) (Or.inl ⟨by rfl, ?_⟩) ?_ ?_
      rotate_left
      ·intro w'
       go_simp
       with_reducible rfl
      rotate_left
      ·exact aP
      refine pure_ (i := 11) (N := some 40) (v := ?_) (a' := ?_) #[true,true,true,true,true,true,true,true,true,true,true,true,false,false,false,false,false,false,false,false,false,false,false,false,false,false,false,false,false,false,false] rfl rfl (any_of HT_.out (by kernel_rfl)) (fun _ _ _ h => h) (Or.inl ⟨by rfl, ?_⟩) ?_ ?_
      rotate_left
      ·intro w'
       go_simp
       with_reducible rfl
      rotate_left
      ·exact aP
      refine pure_ (i := 12) (N := some 41) (v := ?_) (a' := ?_) #[true,true,true,true,true,true,true,true,true,true,true,true,true,false,false,false,false,false,false,false,false,false,false,false,false,false,false,false,false,false,false] rfl rfl (any_of HT_.out (by kernel_rfl)) (fun _ _ _ h => h) (Or.inl ⟨by rfl, ?_⟩) ?_ ?_
      rotate_left
      ·intro w'
       go_simp
       with_reducible rfl
      rotate_left
      ·exact aP
      refine pure_ (i := 13) (N := some 42) (v := ?_) (a' := ?_) #[true,true,true,true,true,true,true,true,true,true,true,true,true,true,false,false,false,false,false,false,false,false,false,false,false,false,false,false,false,false,false] rfl rfl (any_of HT_.out (by kernel_rfl)) (fun _ _ _ h => h) (Or.inl ⟨by rfl, ?_⟩) ?_ ?_
      rotate_left
      ·intro w'
       go_simp
       with_reducible rfl
      rotate_left
      ·exact aP
      refine pure_ (i := 14) (N := some 43) (v := ?_) (a' := ?_) #[true,true,true,true,true,true,true,true,true,true,true,true,true,true,true,false,false,false,false,false,false,false,false,false,false,false,false,false,false,false,false] rfl rfl (any_of HT_.out (by kernel_rfl)) (fun _ _ _ h => h) (Or.inl ⟨by rfl, ?_⟩) ?_ ?_
      rotate_left
      ·intro w'
       go_simp
       with_reducible rfl
      rotate_left
      ·exact aP
      refine pure_ (i := 15) (N := some 44) (v := ?_) (a' := ?_) #[true,true,true,true,true,true,true,true,true,true,true,true,true,true,true,true,false,false,false,false,false,false,false,false,false,false,false,false,false,false,false] rfl rfl (any_of HT_.out (by kernel_rfl)) (fun _ _ _ h => h) (Or.inl ⟨by rfl, ?_⟩) ?_ ?_
      rotate_left
      ·intro w'
       go_simp
       with_reducible rfl
      rotate_left
      ·exact aP
      refine pure_ (i := 16) (N := some 45) (v := ?_) (a' := ?_) #[true,true,true,true,true,true,true,true,true,true,true,true,true,true,true,true,true,false,false,false,false,false,false,false,false,false,false,false,false,false,false] rfl rfl (any_of HT_.out (by kernel_rfl)) (fun _ _ _ h => h) (Or.inl ⟨by rfl, ?_⟩) ?_ ?_
      rotate_left
      ·intro w'
       go_simp
       with_reducible rfl
      rotate_left
      ·exact aP
      refine pure_ (i := 17) (N := some 46) (v := ?_) (a' := ?_) #[true,true,true,true,true,true,true,true,true,true,true,true,true,true,true,true,true,true,false,false,false,false,false,false,false,false,false,false,false,false,false] rfl rfl (any_of HT_.out (by kernel_rfl)) (fun _ _ _ h => h) (Or.inl ⟨by rfl, ?_⟩) ?_ ?_
      rotate_left
      ·intro w'
       go_simp
       with_reducible rfl
      rotate_left
      ·exact aP
      refine pure_ (i := 18) (N := some 47) (v := undef) (a' := ?_) #[true,true,true,true,true,true,true,true,true,true,true,true,true,true,true,true,true,true,true,false,false,false,false,false,false,false,false,false,false,false,false] rfl rfl (any_of HT_.out (by kernel_rfl)) (fun _ _ _ h => h) (Or.inr ⟨by rfl, rfl⟩) ?_ ?_
      rotate_left
      ·exact aP
      refine pure_ (i := 19) (N := some 48) (v := undef) (a' := ?_) #[true,true,true,true,true,true,true,true,true,true,true,true,true,true,true,true,true,true,true,true,false,false,false,false,false,false,false,false,false,false,false] rfl rfl (any_of HT_.out (by kernel_rfl)) (fun _ _ _ h => h) (Or.inr ⟨by rfl, rfl⟩) ?_ ?_
      rotate_left
      ·exact aP
      refine pure_ (i := 20) (N := some 49) (v := undef) (a' := ?_) #[true,true,true,true,true,true,true,true,true,true,true,true,true,true,true,true,true,true,true,true,true,false,false,false,false,false,false,false,false,false,false] rfl rfl (any_of HT_.out (by kernel_rfl)) (fun _ _ _ h => h) (Or.inr ⟨by rfl, rfl⟩) ?_ ?_
      rotate_left
      ·exact aP
      refine pure_ (i := 21) (N := some 50) (v := undef) (a' := ?_) #[true,true,true,true,true,true,true,true,true,true,true,true,true,true,true,true,true,true,true,true,true,true,false,false,false,false,false,false,false,false,false] rfl rfl (any_of HT_.out (by kernel_rfl)) (fun _ _ _ h => h) (Or.inr ⟨by rfl, rfl⟩) ?_ ?_
      rotate_left
      ·exact aP
      refine pure_ (i := 22) (N := some 51) (v := undef) (a' := ?_) #[true,true,true,true,true,true,true,true,true,true,true,true,true,true,true,true,true,true,true,true,true,true,true,false,false,false,false,false,false,false,false] rfl rfl (any_of HT_.out (by kernel_rfl)) (fun _ _ _ h => h) (Or.inr ⟨by rfl, rfl⟩) ?_ ?_
      rotate_left
      ·exact aP
      refine pure_ (i := 23) (N := some 52) (v := undef) (a' := ?_) #[true,true,true,true,true,true,true,true,true,true,true,true,true,true,true,true,true,true,true,true,true,true,true,true,false,false,false,false,false,false,false] rfl rfl (any_of HT_.out (by kernel_rfl)) (fun _ _ _ h => h) (Or.inr ⟨by rfl, rfl⟩) ?_ ?_
      rotate_left
      ·exact aP
      refine pure_ (i := 24) (N := some 53) (v := undef) (a' := ?_) #[true,true,true,true,true,true,true,true,true,true,true,true,true,true,true,true,true,true,true,true,true,true,true,true,true,false,false,false,false,false,false] rfl rfl (any_of HT_.out (by kernel_rfl)) (fun _ _ _ h => h) (Or.inr ⟨by rfl, rfl⟩) ?_ ?_
      rotate_left
      ·exact aP
      refine pure_ (i := 25) (N := some 54) (v := undef) (a' := ?_) #[true,true,true,true,true,true,true,true,true,true,true,true,true,true,true,true,true,true,true,true,true,true,true,true,true,true,false,false,false,false,false] rfl rfl (any_of HT_.out (by kernel_rfl)) (fun _ _ _ h => h) (Or.inr ⟨by rfl, rfl⟩) ?_ ?_
      rotate_left
      ·exact aP
      refine pure_ (i := 26) (N := some 55) (v := undef) (a' := ?_) #[true,true,true,true,true,true,true,true,true,true,true,true,true,true,true,true,true,true,true,true,true,true,true,true,true,true,true,false,false,false,false] rfl rfl (any_of HT_.out (by kernel_rfl)) (fun _ _ _ h => h) (Or.inr ⟨by rfl, rfl⟩) ?_ ?_
      rotate_left
      ·exact aP
      refine pure_ (i := 27) (N := some 56) (v := undef) (a' := ?_) #[true,true,true,true,true,true,true,true,true,true,true,true,true,true,true,true,true,true,true,true,true,true,true,true,true,true,true,true,false,false,false] rfl rfl (any_of HT_.out (by kernel_rfl)) (fun _ _ _ h => h) (Or.inr ⟨by rfl, rfl⟩) ?_ ?_
      rotate_left
      ·exact aP
      refine pure_ (i := 28) (N := some 57) (v := undef) (a' := ?_) #[true,true,true,true,true,true,true,true,true,true,true,true,true,true,true,true,true,true,true,true,true,true,true,true,true,true,true,true,true,false,false] rfl rfl (any_of HT_.out (by kernel_rfl)) (fun _ _ _ h => h) (Or.inr ⟨by rfl, rfl⟩) ?_ ?_
      rotate_left
      ·exact aP
      refine pure_ (i := 29) (N := some 58) (v := ?_) (a' := ?_) #[true,true,true,true,true,true,true,true,true,true,true,true,true,true,true,true,true,true,true,true,true,true,true,true,true,true,true,true,true,true,false] rfl rfl (any_of HT_.out (by kernel_rfl)) (fun _ _ _ h => h) (Or.inl ⟨by rfl, ?_⟩) ?_ ?_
      rotate_left
      ·intro w'
       go_simp
       with_reducible rfl
      rotate_left
      ·exact aP
      refine pure_ (i := 30) (N := some 59) (v := ?_) (a' := ?_) #[true,true,true,true,true,true,true,true,true,true,true,true,true,true,true,true,true,true,true,true,true,true,true,true,true,true,true,true,true,true,true] rfl rfl (any_of HT_.out (by kernel_rfl)) (fun _ _ _ h => h) (Or.inl ⟨by rfl, ?_⟩) ?_ ?_
      rotate_left
      ·intro w'
       go_simp
       with_reducible rfl
      rotate_left
      ·exact aP
      refine done_ (done_of HT_.out (by kernel_rfl)) ?_
      try go_wp2
      go_roundg k2
      case measure => have := HJ2.out;have := HK2.out;omega
      case rel => exact ⟨(t718), (true), (wrap64 (x24_2 + 1)), (by first | rfl | (simp;done) | (simp [*];done)), (by first | rfl | (simp;done) | (simp [*];done)), H', ⟨by have := HJ2.out;have := HK2.out;omega⟩, ⟨by refine rP ?_;exact Kd.R_mono HO720.out (fun _ hk => hk.2)⟩, ⟨by refine rP ?_;exact Kd.R_mono HO_717000.out (fun _ hk => hk.2)⟩, ⟨by exact kP BK710.out⟩, ⟨by exact kP BK716.out⟩, ⟨by exact bB⟩⟩
     rw [if_neg c28] at H
     have c28b0 : decide ((t718.length : Int) < (x7_2.length : Int)) = false := decide_eq_false c28
     have c28b1 : decide (t718.length < x7_2.length) = false := decide_eq_false (fun h => c28 (Int.ofNat_lt.mpr h))
     clear c28
     by_cases c35 : (t718.length : Int) = (x7_2.length : Int)
     rotate_left
     ·rw [if_neg c35] at H
      have c35b0 : ((t718.length : Int) == (x7_2.length : Int)) = false := beq_eq_false_iff_ne.mpr c35
      have c35b1 : ((t718.length : Int) != (x7_2.length : Int)) = true := bne_iff_ne.mpr c35
      have c35b2 : (t718.length == x7_2.length) = false := by first | simpa using c35 | (simp at c35 ⊢;omega)
      have H' := Aside0.mk H
      clear H
      try go_wp2_with (first | ((with_reducible refine gate_callee (f := 71) rfl ?_);refine goesL_ (some 28) rfl rfl Try.func71 (by kernel_rfl) rfl #[.int .i64 x24_2] rfl mM ?_;(with_reducible refine (impl_setOf.calls k2 x24_2 t718 _ A23.out).mono ?_);rintro e w50 ⟨v719, rfl, ho0, hb⟩;refine ⟨_, rfl, ?_⟩;have n0_ := aM (Kd.R_elder' (by exact rP HO_7.out) (Kd.R_base ho0) hb);have n1_ := aM (Kd.R_elder' (by exact rP HO_717000.out) (Kd.R_base ho0) hb);have n2_ := aM (Kd.R_lower (Kd.R_new' (Kd.R_new' ho0 (Kd.R_lt (by exact rP HO_7.out))) (Kd.R_lt (by exact rP HO_717000.out))) (below_size (by exact bB)));have n3_ := aM (kB hb BK710.out);have n4_ := aM (kB hb BK716.out);have n5_ := aM (below_step (by exact bB) hb);clear HO_7;clear HO_717000;clear BK710;clear BK716;clear HB;have HO_7 := n0_;have HO_717000 := n1_;have HO720 := n2_;have BK710 := n3_;have BK716 := n4_;have HB := n5_;clear n0_ n1_ n2_ n3_ n4_ n5_;(try clear hb);(try clear hb2);(try clear hk);(try clear hi);(try clear ho0)))
      have n0_ := aM (Kd.R_drew HO_7.out)
      have n1_ := aM (Kd.R_drew HO_717000.out)
      have n2_ := aM (Kd.R_drew HO720.out)
      have n3_ := aM (blk_drew BK710.out)
      have n4_ := aM (blk_drew BK716.out)
      have n5_ := aM (below_drew1 HB.out)
      clear HO_7
      clear HO_717000
      clear HO720
      clear BK710
      clear BK716
      clear HB
      have HO_7 := n0_
      have HO_717000 := n1_
      have HO720 := n2_
      have BK710 := n3_
      have BK716 := n4_
      have HB := n5_
      clear n0_ n1_ n2_ n3_ n4_ n5_
      refine start_ (n := 31) (S := fun w' => w'.cell? ⟨gb716, 0, none⟩ = some (.slice Ao18 t713.length co18)) (ds := []) #[false,false,false,false,false,false,false,false,false,false,false,false,false,false,false,false,false,false,false,false,false,false,false,false,false,false,false,false,false,false,false] (by kernel_rfl) rfl rfl ((blk_cell BK716.out 0).trans rfl) (fun hHeld => ?_);refine with_tabW impl_LeastSpreading.tab9 impl_LeastSpreading.bits9 (fun HT_ HW_ => ?_)
      generalize w50.drew = w51 at HO_7 HO_717000 HO720 BK710 BK716 HB hHeld ⊢
      refine pure_ (i := 1) (N := some 30) (v := ?_) (a' := ?_) #[false,true,false,false,false,false,false,false,false,false,false,false,false,false,false,false,false,false,false,false,false,false,false,false,false,false,false,false,false,false,false] rfl rfl (any_of HT_.out (by kernel_rfl)) (fun _ _ _ h => h) (Or.inl ⟨by rfl, ?_⟩) ?_ ?_
      rotate_left
      ·intro w'
       go_simp
       with_reducible rfl
      rotate_left
      ·exact aP
      refine pure_ (i := 2) (N := some 31) (v := ?_) (a' := ?_) #[false,true,true,false,false,false,false,false,false,false,false,false,false,false,false,false,false,false,false,false,false,false,false,false,false,false,false,false,false,false,false] rfl rfl (any_of HT_.out (by kernel_rfl)) (fun _ _ _ h => h) (Or.inl ⟨by rfl, ?_⟩) ?_ ?_
      rotate_left
      ·intro w'
       go_simp
       with_reducible rfl
      rotate_left
      ·exact aP
      refine take_ (i := 0) (N := some 29) (v := ?_) (a' := ?_) #[true,true,true,false,false,false,false,false,false,false,false,false,false,false,false,false,false,false,false,false,false,false,false,false,false,false,false,false,false,false,false] rfl rfl (take_ofW HT_.out HW_.out (by kernel_rfl)) (fun _ _ _ h => h) (Or.inl ⟨by rfl, ?_⟩) hHeld ?_ ?_
      rotate_left
      ·intro w' s0
       go_simp
       with_reducible rfl
      rotate_left
      ·exact aP
      refine take_ (i := 4) (N := some 33) (v := ?_) (a' := ?_) #[true,true,true,false,true,false,false,false,false,false,false,false,false,false,false,false,false,false,false,false,false,false,false,false,false,false,false,false,false,false,false] rfl rfl (take_ofW HT_.out HW_.out (by kernel_rfl)) (fun _ _ _ h => h) (Or.inl ⟨by rfl, ?_⟩) hHeld ?_ ?_
      rotate_left
      ·intro w' s0
       go_simp
       with_reducible rfl
      rotate_left
      ·exact aP
      refine one_ (i := 3) (N := some 32) #[true,true,true,true,true,false,false,false,false,false,false,false,false,false,false,false,false,false,false,false,false,false,false,false,false,false,false,false,false,false,false] rfl rfl (one_of HT_.out (by kernel_rfl)) (by decide) (fun K hK => ?_)
      refine goes_ Try.func97 (by kernel_rfl) rfl #[.agg #[.slice Ao18 t713.length co18], .int .i64 x24_2, .int .i64 a1] (by rfl) rfl rfl mM ?_
      with_reducible refine (impl_net_spread.calls k2 _ _ t713 x24_2 a1 t721 _ ?side1 ?side2 A24.out).mono ?_
      (case side1 => exact cP (Kd.R_reads' HO_717000.out).2.2)
      (case side2 => exact (Kd.R_reads' HO_717000.out).2.1)
      rintro e w52 ⟨rfl, hb⟩
      refine ⟨_, rfl, ?_⟩
      have n0_ := aM (Kd.R_below (by exact rP HO_7.out) hb)
      have n1_ := aM (Kd.R_below (by exact rP HO_717000.out) hb)
      have n2_ := aM (Kd.R_below (by exact rP HO720.out) hb)
      have n3_ := aM (kB hb BK710.out)
      have n4_ := aM (kB hb BK716.out)
      have n5_ := aM (below_step (by exact bB) hb)
      clear HO_7
      clear HO_717000
      clear HO720
      clear BK710
      clear BK716
      clear HB
      have HO_7 := n0_
      have HO_717000 := n1_
      have HO720 := n2_
      have BK710 := n3_
      have BK716 := n4_
      have HB := n5_
      clear n0_ n1_ n2_ n3_ n4_ n5_
      (try clear hb)
      (try clear hb2)
      (try clear hk)
      (try clear hi)
      refine hK.out _ _ ((blk_cell BK716.out 0).trans rfl) (fun hHeld => ?_)
      clear hK K
      refine norm_ (a' := ?_) ?_ ?_
      rotate_left
      ·show Act.put _ (some 32) _ = _
       simp only [Act.put, List.setIfInBounds_toArray, List.set_cons_zero, List.set_cons_succ, i64_w, i32_w]
       rfl
      refine one_ (i := 5) (N := some 34) #[true,true,true,true,true,true,false,false,false,false,false,false,false,false,false,false,false,false,false,false,false,false,false,false,false,false,false,false,false,false,false] rfl rfl (one_of HT_.out (by kernel_rfl)) (by decide) (fun K hK => ?_)
      refine goes_ Try.func73 (by kernel_rfl) rfl #[.agg #[.slice Ao18 t713.length co18]] (by rfl) rfl rfl mM ?_
      with_reducible refine (impl_net_all.calls _ _ t713 t722 _ ?side1 ?side2 A25.out).mono ?_
      (case side1 => exact cP (Kd.R_reads' HO_717000.out).2.2)
      (case side2 => exact (Kd.R_reads' HO_717000.out).2.1)
      rintro e w53 ⟨rfl, hb⟩
      refine ⟨_, rfl, ?_⟩
      have n0_ := aM (Kd.R_below (by exact rP HO_7.out) hb)
      have n1_ := aM (Kd.R_below (by exact rP HO_717000.out) hb)
      have n2_ := aM (Kd.R_below (by exact rP HO720.out) hb)
      have n3_ := aM (kB hb BK710.out)
      have n4_ := aM (kB hb BK716.out)
      have n5_ := aM (below_step (by exact bB) hb)
      clear HO_7
      clear HO_717000
      clear HO720
      clear BK710
      clear BK716
      clear HB
      have HO_7 := n0_
      have HO_717000 := n1_
      have HO720 := n2_
      have BK710 := n3_
      have BK716 := n4_
      have HB := n5_
      clear n0_ n1_ n2_ n3_ n4_ n5_
      (try clear hb)
      (try clear hb2)
      (try clear hk)
      (try clear hi)
      obtain ⟨Ao54, co54, eo54⟩ := Kd.R_slice HO720.out
      (first | subst eo54 | (injection eo54 with f1_ f2_ f3_;have f4_ := f1_.symm;have f5_ := f3_.symm;clear f1_ f2_ f3_;subst f4_;subst f5_))
      obtain ⟨Ao55, co55, eo55⟩ := Kd.R_slice HO_7.out
      (first | subst eo55 | (injection eo55 with f1_ f2_ f3_;have f4_ := f1_.symm;have f5_ := f3_.symm;clear f1_ f2_ f3_;subst f4_;subst f5_))
      refine hK.out _ _ ((blk_cell BK716.out 0).trans rfl) (fun hHeld => ?_)
      clear hK K
      refine norm_ (a' := ?_) ?_ ?_
      rotate_left
      ·show Act.put _ (some 34) _ = _
       simp only [Act.put, List.setIfInBounds_toArray, List.set_cons_zero, List.set_cons_succ, i64_w, i32_w]
       rfl
      refine pure_ (i := 6) (N := some 35) (v := ?_) (a' := ?_) #[true,true,true,true,true,true,true,false,false,false,false,false,false,false,false,false,false,false,false,false,false,false,false,false,false,false,false,false,false,false,false] rfl rfl (any_of HT_.out (by kernel_rfl)) (fun _ _ _ h => h) (Or.inl ⟨by rfl, ?_⟩) ?_ ?_
      rotate_left
      ·intro w'
       go_simp
       with_reducible rfl
      rotate_left
      ·exact aP
      refine pure_ (i := 7) (N := some 36) (v := ?_) (a' := ?_) #[true,true,true,true,true,true,true,true,false,false,false,false,false,false,false,false,false,false,false,false,false,false,false,false,false,false,false,false,false,false,false] rfl rfl (any_of HT_.out (by kernel_rfl)) (fun _ _ _ h => h) (Or.inl ⟨by rfl, ?_⟩) ?_ ?_
      rotate_left
      ·intro w'
       go_simp
       with_reducible rfl
      rotate_left
      ·exact aP
      refine pure_ (i := 8) (N := some 37) (v := ?_) (a' := ?_) #[true,true,true,true,true,true,true,true,true,false,false,false,false,false,false,false,false,false,false,false,false,false,false,false,false,false,false,false,false,false,false] rfl rfl (any_of HT_.out (by kernel_rfl)) (fun _ _ _ h => h) (Or.inl ⟨by rfl, ?_⟩) ?_ ?_
      rotate_left
      ·intro w'
       go_simp
       with_reducible rfl
      rotate_left
      ·exact aP
      refine pure_ (i := 9) (N := some 38) (v := ?_) (a' := ?_) #[true,true,true,true,true,true,true,true,true,true,false,false,false,false,false,false,false,false,false,false,false,false,false,false,false,false,false,false,false,false,false] rfl rfl (any_of HT_.out (by kernel_rfl)) (fun _ _ _ h => h) (Or.inl ⟨by rfl, ?_⟩) ?_ ?_
      rotate_left
      ·intro w'
       go_simp
       with_reducible rfl
      rotate_left
      ·exact aP
      refine pure_ (i := 10) (N := some 39) (v := ?_) (a' := ?_) #[true,true,true,true,true,true,true,true,true,true,true,false,false,false,false,false,false,false,false,false,false,false,false,false,false,false,false,false,false,false,false] rfl rfl (any_of HT_.out (by kernel_rfl)) (fun _ _ _ h => h) (Or.inl ⟨by rfl, ?_⟩) ?_ ?_
      rotate_left
      ·intro w'
       go_simp
       with_reducible rfl
      rotate_left
      ·exact aP
      refine pure_ (i := 11) (N := some 40) (v := ?_) (a' := ?_) #[true,true,true,true,true,true,true,true,true,true,true,true,false,false,false,false,false,false,false,false,false,false,false,false,false,false,false,false,false,false,false] rfl rfl (any_of HT_.out (by kernel_rfl)) (fun _ _ _ h => h) (Or.inl ⟨by rfl, ?_⟩) ?_ ?_
      rotate_left
      ·intro w'
       go_simp
       with_reducible rfl
      rotate_left
      ·exact aP
      refine pure_ (i := 12) (N := some 41) (v := ?_) (a' := ?_) #[true,true,true,true,true,true,true,true,true,true,true,true,true,false,false,false,false,false,false,false,false,false,false,false,false,false,false,false,false,false,false] rfl rfl (any_of HT_.out (by kernel_rfl)) (fun _ _ _ h => h) (Or.inl ⟨by rfl, ?_⟩) ?_ ?_
      rotate_left
      ·intro w'
       go_simp
       with_reducible rfl
      rotate_left
      ·exact aP
      refine pure_ (i := 13) (N := some 42) (v := ?_) (a' := ?_) #[true,true,true,true,true,true,true,true,true,true,true,true,true,true,false,false,false,false,false,false,false,false,false,false,false,false,false,false,false,false,false] rfl rfl (any_of HT_.out (by kernel_rfl)) (fun _ _ _ h => h) (Or.inl ⟨by rfl, ?_⟩) ?_ ?_
      rotate_left
      ·intro w'
       go_simp
       with_reducible rfl
      rotate_left
      ·exact aP
      refine pure_ (i := 14) (N := some 43) (v := ?_) (a' := ?_) #[true,true,true,true,true,true,true,true,true,true,true,true,true,true,true,false,false,false,false,false,false,false,false,false,false,false,false,false,false,false,false] rfl rfl (any_of HT_.out (by kernel_rfl)) (fun _ _ _ h => h) (Or.inl ⟨by rfl, ?_⟩) ?_ ?_
      rotate_left
      ·intro w'
       go_simp
       with_reducible rfl
      rotate_left
      ·exact aP
      refine pure_ (i := 15) (N := some 44) (v := ?_) (a' := ?_) #[true,true,true,true,true,true,true,true,true,true,true,true,true,true,true,true,false,false,false,false,false,false,false,false,false,false,false,false,false,false,false] rfl rfl (any_of HT_.out (by kernel_rfl)) (fun _ _ _ h => h) (Or.inl ⟨by rfl, ?_⟩) ?_ ?_
      rotate_left
      ·intro w'
       go_simp
       with_reducible rfl
      rotate_left
      ·exact aP
      refine pure_ (i := 16) (N := some 45) (v := ?_) (a' := ?_) #[true,true,true,true,true,true,true,true,true,true,true,true,true,true,true,true,true,false,false,false,false,false,false,false,false,false,false,false,false,false,false] rfl rfl (any_of HT_.out (by kernel_rfl)) (fun _ _ _ h => h) (Or.inl ⟨by rfl, ?_⟩) ?_ ?_
      rotate_left
      ·intro w'
       go_simp
       with_reducible rfl
      rotate_left
      ·exact aP
      refine pure_ (i := 17) (N := some 46) (v := ?_) (a' := ?_) #[true,true,true,true,true,true,true,true,true,true,true,true,true,true,true,true,true,true,false,false,false,false,false,false,false,false,false,false,false,false,false] rfl rfl (any_of HT_.out (by kernel_rfl)) (fun _ _ _ h => h) (Or.inl ⟨by rfl, ?_⟩) ?_ ?_
      rotate_left
      ·intro w'
       go_simp
       with_reducible rfl
      rotate_left
      ·exact aP
      refine pure_ (i := 18) (N := some 47) (v := ?_) (a' := ?_) #[true,true,true,true,true,true,true,true,true,true,true,true,true,true,true,true,true,true,true,false,false,false,false,false,false,false,false,false,false,false,false] rfl rfl (any_of HT_.out (by kernel_rfl)) (fun _ _ _ h => h) (Or.inl ⟨by rfl, ?_⟩) ?_ ?_
      rotate_left
      ·intro w'
       go_simp
       with_reducible rfl
      rotate_left
      ·exact aP
      refine pure_ (i := 19) (N := some 48) (v := ?_) (a' := ?_) #[true,true,true,true,true,true,true,true,true,true,true,true,true,true,true,true,true,true,true,true,false,false,false,false,false,false,false,false,false,false,false] rfl rfl (any_of HT_.out (by kernel_rfl)) (fun _ _ _ h => h) (Or.inl ⟨by rfl, ?_⟩) ?_ ?_
      rotate_left
      ·intro w'
       go_simp
       with_reducible rfl
      rotate_left
      ·exact aP
      refine pure_ (i := 20) (N := some 49) (v := ?_) (a' := ?_) #[true,true,true,true,true,true,true,true,true,true,true,true,true,true,true,true,true,true,true,true,true,false,false,false,false,false,false,false,false,false,false] rfl rfl (any_of HT_.out (by kernel_rfl)) (fun _ _ _ h => h) (Or.inl ⟨by rfl, ?_⟩) ?_ ?_
      rotate_left
      ·intro w'
       go_simp
       with_reducible rfl
      rotate_left
      ·exact aP
      refine pure_ (i := 21) (N := some 50) (v := ?_) (a' := ?_) #[true,true,true,true,true,true,true,true,true,true,true,true,true,true,true,true,true,true,true,true,true,true,false,false,false,false,false,false,false,false,false] rfl rfl (any_of HT_.out (by kernel_rfl)) (fun _ _ _ h => h) (Or.inl ⟨by rfl, ?_⟩) ?_ ?_
      rotate_left
      ·intro w'
       go_simp
       with_reducible rfl
      rotate_left
      ·exact aP
      refine pure_ (i := 22) (N := some 51) (v := ?_) (a' := ?_) #[true,true,true,true,true,true,true,true,true,true,true,true,true,true,true,true,true,true,true,true,true,true,true,false,false,false,false,false,false,false,false] rfl rfl (any_of HT_.out (by kernel_rfl)) (fun _ _ _ h => h) (Or.inl ⟨by rfl, ?_⟩) ?_ ?_
      rotate_left
      ·intro w'
       go_simp
       with_reducible rfl
      rotate_left
      ·exact aP
      refine pure_ (i := 23) (N := some 52) (v := ?_) (a' := ?_) #[true,true,true,true,true,true,true,true,true,true,true,true,true,true,true,true,true,true,true,true,true,true,true,true,false,false,false,false,false,false,false] rfl rfl (any_of HT_.out (by kernel_rfl)) (fun _ _ _ h => h) (Or.inl ⟨by rfl, ?_⟩) ?_ ?_
      rotate_left
      ·intro w'
       go_simp
       with_reducible rfl
      rotate_left
      ·exact aP
      refine pure_ (i := 24) (N := some 53) (v := undef) (a' := ?_) #[true,true,true,true,true,true,true,true,true,true,true,true,true,true,true,true,true,true,true,true,true,true,true,true,true,false,false,false,false,false,false] rfl rfl (any_of HT_.out (by kernel_rfl)) (fun _ _ _ h => h) (Or.inr ⟨by rfl, rfl⟩) ?_ ?_
      rotate_left
      ·exact aP
      refine pure_ (i := 25) (N := some 54) (v := undef) (a' := ?_) #[true,true,true,true,true,true,true,true,true,true,true,true,true,true,true,true,true,true,true,true,true,true,true,true,true,true,false,false,false,false,false] rfl rfl (any_of HT_.out (by kernel_rfl)) (fun _ _ _ h => h) (Or.inr ⟨by rfl, rfl⟩) ?_ ?_
      rotate_left
      ·exact aP
      refine pure_ (i := 26) (N := some 55) (v := undef) (a' := ?_) #[true,true,true,true,true,true,true,true,true,true,true,true,true,true,true,true,true,true,true,true,true,true,true,true,true,true,true,false,false,false,false] rfl rfl (any_of HT_.out (by kernel_rfl)) (fun _ _ _ h => h) (Or.inr ⟨by rfl, rfl⟩) ?_ ?_
      rotate_left
      ·exact aP
      refine pure_ (i := 27) (N := some 56) (v := undef) (a' := ?_) #[true,true,true,true,true,true,true,true,true,true,true,true,true,true,true,true,true,true,true,true,true,true,true,true,true,true,true,true,false,false,false] rfl rfl (any_of HT_.out (by kernel_rfl)) (fun _ _ _ h => h) (Or.inr ⟨by rfl, rfl⟩) ?_ ?_
      rotate_left
      ·exact aP
      refine pure_ (i := 28) (N := some 57) (v := ?_) (a' := ?_) #[true,true,true,true,true,true,true,true,true,true,true,true,true,true,true,true,true,true,true,true,true,true,true,true,true,true,true,true,true,false,false] rfl rfl (any_of HT_.out (by kernel_rfl)) (fun _ _ _ h => h) (Or.inl ⟨by rfl, ?_⟩) ?_ ?_
      rotate_left
      ·intro w'
       go_simp
       with_reducible rfl
      rotate_left
      ·exact aP
      refine pure_ (i := 29) (N := some 58) (v := ?_) (a' := ?_) #[true,true,true,true,true,true,true,true,true,true,true,true,true,true,true,true,true,true,true,true,true,true,true,true,true,true,true,true,true,true,false] rfl rfl (any_of HT_.out (by kernel_rfl)) (fun _ _ _ h => h) (Or.inl ⟨by rfl, ?_⟩) ?_ ?_
      rotate_left
      ·intro w'
       go_simp
       with_reducible rfl
      rotate_left
      ·exact aP
      refine pure_ (i := 30) (N := some 59) (v := ?_) (a' := ?_) #[true,true,true,true,true,true,true,true,true,true,true,true,true,true,true,true,true,true,true,true,true,true,true,true,true,true,true,true,true,true,true] rfl rfl (any_of HT_.out (by kernel_rfl)) (fun _ _ _ h => h) (Or.inl ⟨by rfl, ?_⟩) ?_ ?_
      rotate_left
      ·intro w'
       go_simp
       with_reducible rfl
      rotate_left
      ·exact aP
      refine done_ (done_of HT_.out (by kernel_rfl)) ?_
      try go_wp2
      go_roundg k2
      case measure => have := HJ2.out;have := HK2.out;omega
      case rel => exact ⟨(x7_2), (true), (wrap64 (x24_2 + 1)), (by first | rfl | (simp;done) | (simp [*];done)), (by first | rfl | (simp;done) | (simp [*];done)), H', ⟨by have := HJ2.out;have := HK2.out;omega⟩, ⟨by refine rP ?_;exact Kd.R_mono HO_7.out (fun _ hk => hk.1)⟩, ⟨by refine rP ?_;exact Kd.R_mono HO_717000.out (fun _ hk => hk.1)⟩, ⟨by exact kP BK710.out⟩, ⟨by exact kP BK716.out⟩, ⟨by exact bB⟩⟩
     rw [if_pos c35] at H
     have c35b0 : ((t718.length : Int) == (x7_2.length : Int)) = true := beq_iff_eq.mpr c35
     have c35b1 : ((t718.length : Int) != (x7_2.length : Int)) = false := bne_eq_false_iff_eq.mpr c35
     have c35b2 : (t718.length == x7_2.length) = true := by first | simpa using c35 | (simp at c35 ⊢;omega)
     clear c35
     replace H := Option.bind_eq_some_iff.mp H
     obtain ⟨t723, A360, H⟩ := H
     replace H : (if t723 < 0 then (impl_LeastSpreading.l0 k2 a1 t718 true (wrap64 (t717 + 1)) (wrap64 (x24_2 + 1)) t713) else (impl_LeastSpreading.l0 k2 a1 x7_2 true (wrap64 (t717 + 1)) (wrap64 (x24_2 + 1)) t713)) = some (r1, r2) := H
     have A36 := Aside0.mk A360
     clear A360
     by_cases c37 : t723 < 0
     rotate_left
     ·rw [if_neg c37] at H
      have c37b0 : decide (t723 < 0) = false := decide_eq_false c37
      clear c37
      have H' := Aside0.mk H
      clear H
      try go_wp2_with (first | ((with_reducible refine gate_callee (f := 71) rfl ?_);refine goesL_ (some 28) rfl rfl Try.func71 (by kernel_rfl) rfl #[.int .i64 x24_2] rfl mM ?_;(with_reducible refine (impl_setOf.calls k2 x24_2 t718 _ A23.out).mono ?_);rintro e w44 ⟨v719, rfl, ho0, hb⟩;refine ⟨_, rfl, ?_⟩;have n0_ := aM (Kd.R_elder' (by exact rP HO_7.out) (Kd.R_base ho0) hb);have n1_ := aM (Kd.R_elder' (by exact rP HO_717000.out) (Kd.R_base ho0) hb);have n2_ := aM (Kd.R_lower (Kd.R_new' (Kd.R_new' ho0 (Kd.R_lt (by exact rP HO_7.out))) (Kd.R_lt (by exact rP HO_717000.out))) (below_size (by exact bB)));have n3_ := aM (kB hb BK710.out);have n4_ := aM (kB hb BK716.out);have n5_ := aM (below_step (by exact bB) hb);clear HO_7;clear HO_717000;clear BK710;clear BK716;clear HB;have HO_7 := n0_;have HO_717000 := n1_;have HO720 := n2_;have BK710 := n3_;have BK716 := n4_;have HB := n5_;clear n0_ n1_ n2_ n3_ n4_ n5_;(try clear hb);(try clear hb2);(try clear hk);(try clear hi);(try clear ho0)))
      have n0_ := aM (Kd.R_drew HO_7.out)
      have n1_ := aM (Kd.R_drew HO_717000.out)
      have n2_ := aM (Kd.R_drew HO720.out)
      have n3_ := aM (blk_drew BK710.out)
      have n4_ := aM (blk_drew BK716.out)
      have n5_ := aM (below_drew1 HB.out)
      clear HO_7
      clear HO_717000
      clear HO720
      clear BK710
      clear BK716
      clear HB
      have HO_7 := n0_
      have HO_717000 := n1_
      have HO720 := n2_
      have BK710 := n3_
      have BK716 := n4_
      have HB := n5_
      clear n0_ n1_ n2_ n3_ n4_ n5_
      refine start_ (n := 31) (S := fun w' => w'.cell? ⟨gb716, 0, none⟩ = some (.slice Ao18 t713.length co18)) (ds := []) #[false,false,false,false,false,false,false,false,false,false,false,false,false,false,false,false,false,false,false,false,false,false,false,false,false,false,false,false,false,false,false] (by kernel_rfl) rfl rfl ((blk_cell BK716.out 0).trans rfl) (fun hHeld => ?_);refine with_tabW impl_LeastSpreading.tab9 impl_LeastSpreading.bits9 (fun HT_ HW_ => ?_)
      generalize w44.drew = w45 at HO_7 HO_717000 HO720 BK710 BK716 HB hHeld ⊢
      refine pure_ (i := 1) (N := some 30) (v := ?_) (a' := ?_) #[false,true,false,false,false,false,false,false,false,false,false,false,false,false,false,false,false,false,false,false,false,false,false,false,false,false,false,false,false,false,false] rfl rfl (any_of HT_.out (by kernel_rfl)) (fun _ _ _ h => h) (Or.inl ⟨by rfl, ?_⟩) ?_ ?_
      rotate_left
      ·intro w'
       go_simp
       with_reducible rfl
      rotate_left
      ·exact aP
      refine pure_ (i := 2) (N := some 31) (v := ?_) (a' := ?_) #[false,true,true,false,false,false,false,false,false,false,false,false,false,false,false,false,false,false,false,false,false,false,false,false,false,false,false,false,false,false,false] rfl rfl (any_of HT_.out (by kernel_rfl)) (fun _ _ _ h => h) (Or.inl ⟨by rfl, ?_⟩) ?_ ?_
      rotate_left
      ·intro w'
       go_simp
       with_reducible rfl
      rotate_left
      ·exact aP
      refine take_ (i := 0) (N := some 29) (v := ?_) (a' := ?_) #[true,true,true,false,false,false,false,false,false,false,false,false,false,false,false,false,false,false,false,false,false,false,false,false,false,false,false,false,false,false,false] rfl rfl (take_ofW HT_.out HW_.out (by kernel_rfl)) (fun _ _ _ h => h) (Or.inl ⟨by rfl, ?_⟩) hHeld ?_ ?_
      rotate_left
      ·intro w' s0
       go_simp
       with_reducible rfl
      rotate_left
      ·exact aP
      refine take_ (i := 4) (N := some 33) (v := ?_) (a' := ?_) #[true,true,true,false,true,false,false,false,false,false,false,false,false,false,false,false,false,false,false,false,false,false,false,false,false,false,false,false,false,false,false] rfl rfl (take_ofW HT_.out HW_.out (by kernel_rfl)) (fun _ _ _ h => h) (Or.inl ⟨by rfl, ?_⟩) hHeld ?_ ?_
      rotate_left
      ·intro w' s0
       go_simp
       with_reducible rfl
      rotate_left
      ·exact aP
      refine one_ (i := 3) (N := some 32) #[true,true,true,true,true,false,false,false,false,false,false,false,false,false,false,false,false,false,false,false,false,false,false,false,false,false,false,false,false,false,false] rfl rfl (one_of HT_.out (by kernel_rfl)) (by decide) (fun K hK => ?_)
      refine goes_ Try.func97 (by kernel_rfl) rfl #[.agg #[.slice Ao18 t713.length co18], .int .i64 x24_2, .int .i64 a1] (by rfl) rfl rfl mM ?_
      with_reducible refine (impl_net_spread.calls k2 _ _ t713 x24_2 a1 t721 _ ?side1 ?side2 A24.out).mono ?_
      (case side1 => exact cP (Kd.R_reads' HO_717000.out).2.2)
      (case side2 => exact (Kd.R_reads' HO_717000.out).2.1)
      rintro e w46 ⟨rfl, hb⟩
      refine ⟨_, rfl, ?_⟩
      have n0_ := aM (Kd.R_below (by exact rP HO_7.out) hb)
      have n1_ := aM (Kd.R_below (by exact rP HO_717000.out) hb)
      have n2_ := aM (Kd.R_below (by exact rP HO720.out) hb)
      have n3_ := aM (kB hb BK710.out)
      have n4_ := aM (kB hb BK716.out)
      have n5_ := aM (below_step (by exact bB) hb)
      clear HO_7
      clear HO_717000
      clear HO720
      clear BK710
      clear BK716
      clear HB
      have HO_7 := n0_
      have HO_717000 := n1_
      have HO720 := n2_
      have BK710 := n3_
      have BK716 := n4_
      have HB := n5_
      clear n0_ n1_ n2_ n3_ n4_ n5_
      (try clear hb)
      (try clear hb2)
      (try clear hk)
      (try clear hi)
      refine hK.out _ _ ((blk_cell BK716.out 0).trans rfl) (fun hHeld => ?_)
      clear hK K
      refine norm_ (a' := ?_) ?_ ?_
      rotate_left
      ·show Act.put _ (some 32) _ = _
       simp only [Act.put, List.setIfInBounds_toArray, List.set_cons_zero, List.set_cons_succ, i64_w, i32_w]
       rfl
      refine one_ (i := 5) (N := some 34) #[true,true,true,true,true,true,false,false,false,false,false,false,false,false,false,false,false,false,false,false,false,false,false,false,false,false,false,false,false,false,false] rfl rfl (one_of HT_.out (by kernel_rfl)) (by decide) (fun K hK => ?_)
      refine goes_ Try.func73 (by kernel_rfl) rfl #[.agg #[.slice Ao18 t713.length co18]] (by rfl) rfl rfl mM ?_
      with_reducible refine (impl_net_all.calls _ _ t713 t722 _ ?side1 ?side2 A25.out).mono ?_
      (case side1 => exact cP (Kd.R_reads' HO_717000.out).2.2)
      (case side2 => exact (Kd.R_reads' HO_717000.out).2.1)
      rintro e w47 ⟨rfl, hb⟩
      refine ⟨_, rfl, ?_⟩
      have n0_ := aM (Kd.R_below (by exact rP HO_7.out) hb)
      have n1_ := aM (Kd.R_below (by exact rP HO_717000.out) hb)
      have n2_ := aM (Kd.R_below (by exact rP HO720.out) hb)
      have n3_ := aM (kB hb BK710.out)
      have n4_ := aM (kB hb BK716.out)
      have n5_ := aM (below_step (by exact bB) hb)
      clear HO_7
      clear HO_717000
      clear HO720
      clear BK710
      clear BK716
      clear HB
      have HO_7 := n0_
      have HO_717000 := n1_
      have HO720 := n2_
      have BK710 := n3_
      have BK716 := n4_
      have HB := n5_
      clear n0_ n1_ n2_ n3_ n4_ n5_
      (try clear hb)
      (try clear hb2)
      (try clear hk)
      (try clear hi)
      obtain ⟨Ao48, co48, eo48⟩ := Kd.R_slice HO720.out
      (first | subst eo48 | (injection eo48 with f1_ f2_ f3_;have f4_ := f1_.symm;have f5_ := f3_.symm;clear f1_ f2_ f3_;subst f4_;subst f5_))
      obtain ⟨Ao49, co49, eo49⟩ := Kd.R_slice HO_7.out
      (first | subst eo49 | (injection eo49 with f1_ f2_ f3_;have f4_ := f1_.symm;have f5_ := f3_.symm;clear f1_ f2_ f3_;subst f4_;subst f5_))
      refine hK.out _ _ ((blk_cell BK716.out 0).trans rfl) (fun hHeld => ?_)
      clear hK K
      refine norm_ (a' := ?_) ?_ ?_
      rotate_left
      ·show Act.put _ (some 34) _ = _
       simp only [Act.put, List.setIfInBounds_toArray, List.set_cons_zero, List.set_cons_succ, i64_w, i32_w]
       rfl
      refine pure_ (i := 6) (N := some 35) (v := ?_) (a' := ?_) #[true,true,true,true,true,true,true,false,false,false,false,false,false,false,false,false,false,false,false,false,false,false,false,false,false,false,false,false,false,false,false] rfl rfl (any_of HT_.out (by kernel_rfl)) (fun _ _ _ h => h) (Or.inl ⟨by rfl, ?_⟩) ?_ ?_
      rotate_left
      ·intro w'
       go_simp
       with_reducible rfl
      rotate_left
      ·exact aP
      refine pure_ (i := 7) (N := some 36) (v := ?_) (a' := ?_) #[true,true,true,true,true,true,true,true,false,false,false,false,false,false,false,false,false,false,false,false,false,false,false,false,false,false,false,false,false,false,false] rfl rfl (any_of HT_.out (by kernel_rfl)) (fun _ _ _ h => h) (Or.inl ⟨by rfl, ?_⟩) ?_ ?_
      rotate_left
      ·intro w'
       go_simp
       with_reducible rfl
      rotate_left
      ·exact aP
      refine pure_ (i := 8) (N := some 37) (v := ?_) (a' := ?_) #[true,true,true,true,true,true,true,true,true,false,false,false,false,false,false,false,false,false,false,false,false,false,false,false,false,false,false,false,false,false,false] rfl rfl (any_of HT_.out (by kernel_rfl)) (fun _ _ _ h => h) (Or.inl ⟨by rfl, ?_⟩) ?_ ?_
      rotate_left
      ·intro w'
       go_simp
       with_reducible rfl
      rotate_left
      ·exact aP
      refine pure_ (i := 9) (N := some 38) (v := ?_) (a' := ?_) #[true,true,true,true,true,true,true,true,true,true,false,false,false,false,false,false,false,false,false,false,false,false,false,false,false,false,false,false,false,false,false] rfl rfl (any_of HT_.out (by kernel_rfl)) (fun _ _ _ h => h) (Or.inl ⟨by rfl, ?_⟩) ?_ ?_
      rotate_left
      ·intro w'
       go_simp
       with_reducible rfl
      rotate_left
      ·exact aP
      refine pure_ (i := 10) (N := some 39) (v := ?_) (a' := ?_) #[true,true,true,true,true,true,true,true,true,true,true,false,false,false,false,false,false,false,false,false,false,false,false,false,false,false,false,false,false,false,false] rfl rfl (any_of HT_.out (by kernel_rfl)) (fun _ _ _ h => h) (Or.inl ⟨by rfl, ?_⟩) ?_ ?_
      rotate_left
      ·intro w'
       go_simp
       with_reducible rfl
      rotate_left
      ·exact aP
      refine pure_ (i := 11) (N := some 40) (v := ?_) (a' := ?_) #[true,true,true,true,true,true,true,true,true,true,true,true,false,false,false,false,false,false,false,false,false,false,false,false,false,false,false,false,false,false,false] rfl rfl (any_of HT_.out (by kernel_rfl)) (fun _ _ _ h => h) (Or.inl ⟨by rfl, ?_⟩) ?_ ?_
      rotate_left
      ·intro w'
       go_simp
       with_reducible rfl
      rotate_left
      ·exact aP
      refine pure_ (i := 12) (N := some 41) (v := ?_) (a' := ?_) #[true,true,true,true,true,true,true,true,true,true,true,true,true,false,false,false,false,false,false,false,false,false,false,false,false,false,false,false,false,false,false] rfl rfl (any_of HT_.out (by kernel_rfl)) (fun _ _ _ h => h) (Or.inl ⟨by rfl, ?_⟩) ?_ ?_
      rotate_left
      ·intro w'
       go_simp
       with_reducible rfl
      rotate_left
      ·exact aP
      refine pure_ (i := 13) (N := some 42) (v := ?_) (a' := ?_) #[true,true,true,true,true,true,true,true,true,true,true,true,true,true,false,false,false,false,false,false,false,false,false,false,false,false,false,false,false,false,false] rfl rfl (any_of HT_.out (by kernel_rfl)) (fun _ _ _ h => h) (Or.inl ⟨by rfl, ?_⟩) ?_ ?_
      rotate_left
      ·intro w'
       go_simp
       with_reducible rfl
      rotate_left
      ·exact aP
      refine pure_ (i := 14) (N := some 43) (v := ?_) (a' := ?_) #[true,true,true,true,true,true,true,true,true,true,true,true,true,true,true,false,false,false,false,false,false,false,false,false,false,false,false,false,false,false,false] rfl rfl (any_of HT_.out (by kernel_rfl)) (fun _ _ _ h => h) (Or.inl ⟨by rfl, ?_⟩) ?_ ?_
      rotate_left
      ·intro w'
       go_simp
       with_reducible rfl
      rotate_left
      ·exact aP
      refine pure_ (i := 15) (N := some 44) (v := ?_) (a' := ?_) #[true,true,true,true,true,true,true,true,true,true,true,true,true,true,true,true,false,false,false,false,false,false,false,false,false,false,false,false,false,false,false] rfl rfl (any_of HT_.out (by kernel_rfl)) (fun _ _ _ h => h) (Or.inl ⟨by rfl, ?_⟩) ?_ ?_
      rotate_left
      ·intro w'
       go_simp
       with_reducible rfl
      rotate_left
      ·exact aP
      refine pure_ (i := 16) (N := some 45) (v := ?_) (a' := ?_) #[true,true,true,true,true,true,true,true,true,true,true,true,true,true,true,true,true,false,false,false,false,false,false,false,false,false,false,false,false,false,false] rfl rfl (any_of HT_.out (by kernel_rfl)) (fun _ _ _ h => h) (Or.inl ⟨by rfl, ?_⟩) ?_ ?_
      rotate_left
      ·intro w'
       go_simp
       with_reducible rfl
      rotate_left
      ·exact aP
      refine pure_ (i := 17) (N := some 46) (v := ?_) (a' := ?_) #[true,true,true,true,true,true,true,true,true,true,true,true,true,true,true,true,true,true,false,false,false,false,false,false,false,false,false,false,false,false,false] rfl rfl (any_of HT_.out (by kernel_rfl)) (fun _ _ _ h => h) (Or.inl ⟨by rfl, ?_⟩) ?_ ?_
      rotate_left
      ·intro w'
       go_simp
       with_reducible rfl
      rotate_left
      ·exact aP
      refine pure_ (i := 18) (N := some 47) (v := ?_) (a' := ?_) #[true,true,true,true,true,true,true,true,true,true,true,true,true,true,true,true,true,true,true,false,false,false,false,false,false,false,false,false,false,false,false] rfl rfl (any_of HT_.out (by kernel_rfl)) (fun _ _ _ h => h) (Or.inl ⟨by rfl, ?_⟩) ?_ ?_
      rotate_left
      ·intro w'
       go_simp
       with_reducible rfl
      rotate_left
      ·exact aP
      refine pure_ (i := 19) (N := some 48) (v := ?_) (a' := ?_) #[true,true,true,true,true,true,true,true,true,true,true,true,true,true,true,true,true,true,true,true,false,false,false,false,false,false,false,false,false,false,false] rfl rfl (any_of HT_.out (by kernel_rfl)) (fun _ _ _ h => h) (Or.inl ⟨by rfl, ?_⟩) ?_ ?_
      rotate_left
      ·intro w'
       go_simp
       with_reducible rfl
      rotate_left
      ·exact aP
      refine pure_ (i := 20) (N := some 49) (v := ?_) (a' := ?_) #[true,true,true,true,true,true,true,true,true,true,true,true,true,true,true,true,true,true,true,true,true,false,false,false,false,false,false,false,false,false,false] rfl rfl (any_of HT_.out (by kernel_rfl)) (fun _ _ _ h => h) (Or.inl ⟨by rfl, ?_⟩) ?_ ?_
      rotate_left
      ·intro w'
       go_simp
       with_reducible rfl
      rotate_left
      ·exact aP
      refine pure_ (i := 21) (N := some 50) (v := ?_) (a' := ?_) #[true,true,true,true,true,true,true,true,true,true,true,true,true,true,true,true,true,true,true,true,true,true,false,false,false,false,false,false,false,false,false] rfl rfl (any_of HT_.out (by kernel_rfl)) (fun _ _ _ h => h) (Or.inl ⟨by rfl, ?_⟩) ?_ ?_
      rotate_left
      ·intro w'
       go_simp
       with_reducible rfl
      rotate_left
      ·exact aP
      refine pure_ (i := 22) (N := some 51) (v := ?_) (a' := ?_) #[true,true,true,true,true,true,true,true,true,true,true,true,true,true,true,true,true,true,true,true,true,true,true,false,false,false,false,false,false,false,false] rfl rfl (any_of HT_.out (by kernel_rfl)) (fun _ _ _ h => h) (Or.inl ⟨by rfl, ?_⟩) ?_ ?_
      rotate_left
      ·intro w'
       go_simp
       with_reducible rfl
      rotate_left
      ·exact aP
      refine pure_ (i := 23) (N := some 52) (v := ?_) (a' := ?_) #[true,true,true,true,true,true,true,true,true,true,true,true,true,true,true,true,true,true,true,true,true,true,true,true,false,false,false,false,false,false,false] rfl rfl (any_of HT_.out (by kernel_rfl)) (fun _ _ _ h => h) (Or.inl ⟨by rfl, ?_⟩) ?_ ?_
      rotate_left
      ·intro w'
       go_simp
       with_reducible rfl
      rotate_left
      ·exact aP
      refine pure_ (i := 24) (N := some 53) (v := ?_) (a' := ?_) #[true,true,true,true,true,true,true,true,true,true,true,true,true,true,true,true,true,true,true,true,true,true,true,true,true,false,false,false,false,false,false] rfl rfl (any_of HT_.out (by kernel_rfl)) (fun _ _ _ h => h) (Or.inl ⟨by rfl, ?_⟩) ?_ ?_
      rotate_left
      ·intro w'
       go_simp
       with_reducible rfl
      rotate_left
      ·exact aP
      refine pure_ (i := 25) (N := some 54) (v := ?_) (a' := ?_) #[true,true,true,true,true,true,true,true,true,true,true,true,true,true,true,true,true,true,true,true,true,true,true,true,true,true,false,false,false,false,false] rfl rfl (any_of HT_.out (by kernel_rfl)) (fun _ _ _ h => h) (Or.inl ⟨by rfl, ?_⟩) ?_ ?_
      rotate_left
      ·intro w'
       go_simp
       with_reducible rfl
      rotate_left
      ·exact aP
      refine one_ (i := 26) (N := some 55) #[true,true,true,true,true,true,true,true,true,true,true,true,true,true,true,true,true,true,true,true,true,true,true,true,true,true,true,false,false,false,false] rfl rfl (one_of HT_.out (by kernel_rfl)) (by decide) (fun K hK => ?_)
      refine goes_ Try.func106 (by kernel_rfl) rfl #[.slice Ao48 t718.length co48, .slice Ao49 x7_2.length co49] (by rfl) rfl rfl mM ?_
      with_reducible refine (slices_Compare_int_int.calls k2 _ _ t718 _ _ x7_2 t723 _ ?side1 ?side2 ?side3 ?side4 A36.out).mono ?_
      (case side1 => exact cP (Kd.R_reads' HO720.out).2.2)
      (case side2 => exact (Kd.R_reads' HO720.out).2.1)
      (case side3 => exact cP (Kd.R_reads' HO_7.out).2.2)
      (case side4 => exact (Kd.R_reads' HO_7.out).2.1)
      rintro e w' ⟨rfl, ⟨nd, rfl⟩⟩
      refine ⟨_, rfl, ?_⟩
      refine hK.out _ _ ((blk_cell BK716.out 0).trans rfl) (fun hHeld => ?_)
      clear hK K
      refine norm_ (a' := ?_) ?_ ?_
      rotate_left
      ·show Act.put _ (some 55) _ = _
       simp only [Act.put, List.setIfInBounds_toArray, List.set_cons_zero, List.set_cons_succ, i64_w, i32_w]
       rfl
      refine pure_ (i := 27) (N := some 56) (v := ?_) (a' := ?_) #[true,true,true,true,true,true,true,true,true,true,true,true,true,true,true,true,true,true,true,true,true,true,true,true,true,true,true,true,false,false,false] rfl rfl (any_of HT_.out (by kernel_rfl)) (fun _ _ _ h => h) (Or.inl ⟨by rfl, ?_⟩) ?_ ?_
      rotate_left
      ·intro w'
       go_simp
       with_reducible rfl
      rotate_left
      ·exact aP
      refine pure_ (i := 28) (N := some 57) (v := ?_) (a' := ?_) #[true,true,true,true,true,true,true,true,true,true,true,true,true,true,true,true,true,true,true,true,true,true,true,true,true,true,true,true,true,false,false] rfl rfl (any_of HT_.out (by kernel_rfl)) (fun _ _ _ h => h) (Or.inl ⟨by rfl, ?_⟩) ?_ ?_
      rotate_left
      ·intro w'
       go_simp
       with_reducible rfl
      rotate_left
      ·exact aP
      refine pure_ (i := 29) (N := some 58) (v := ?_) (a' := ?_) #[true,true,true,true,true,true,true,true,true,true,true,true,true,true,true,true,true,true,true,true,true,true,true,true,true,true,true,true,true,true,false] rfl rfl (any_of HT_.out (by kernel_rfl)) (fun _ _ _ h => h) (Or.inl ⟨by rfl, ?_⟩) ?_ ?_
      rotate_left
      ·intro w'
       go_simp
       with_reducible rfl
      rotate_left
      ·exact aP
      refine pure_ (i := 30) (N := some 59) (v := ?_) (a' := ?_) #[true,true,true,true,true,true,true,true,true,true,true,true,true,true,true,true,true,true,true,true,true,true,true,true,true,true,true,true,true,true,true] rfl rfl (any_of HT_.out (by kernel_rfl)) (fun _ _ _ h => h) (Or.inl ⟨by rfl, ?_⟩) ?_ ?_
      rotate_left
      ·intro w'
       go_simp
       with_reducible rfl
      rotate_left
      ·exact aP
      refine done_ (done_of HT_.out (by kernel_rfl)) ?_
      try go_wp2
      go_roundg k2
      case measure => have := HJ2.out;have := HK2.out;omega
      case rel => exact ⟨(x7_2), (true), (wrap64 (x24_2 + 1)), (by first | rfl | (simp;done) | (simp [*];done)), (by first | rfl | (simp;done) | (simp [*];done)), H', ⟨by have := HJ2.out;have := HK2.out;omega⟩, ⟨by refine rP ?_;exact Kd.R_mono HO_7.out (fun _ hk => hk.1)⟩, ⟨by refine rP ?_;exact Kd.R_mono HO_717000.out (fun _ hk => hk.1)⟩, ⟨by exact kP BK710.out⟩, ⟨by exact kP BK716.out⟩, ⟨by exact bB⟩⟩
     rw [if_pos c37] at H
     have c37b0 : decide (t723 < 0) = true := decide_eq_true c37
     clear c37
     have H' := Aside0.mk H
     clear H
     try go_wp2_with (first | ((with_reducible refine gate_callee (f := 71) rfl ?_);refine goesL_ (some 28) rfl rfl Try.func71 (by kernel_rfl) rfl #[.int .i64 x24_2] rfl mM ?_;(with_reducible refine (impl_setOf.calls k2 x24_2 t718 _ A23.out).mono ?_);rintro e w38 ⟨v719, rfl, ho0, hb⟩;refine ⟨_, rfl, ?_⟩;have n0_ := aM (Kd.R_elder' (by exact rP HO_7.out) (Kd.R_base ho0) hb);have n1_ := aM (Kd.R_elder' (by exact rP HO_717000.out) (Kd.R_base ho0) hb);have n2_ := aM (Kd.R_lower (Kd.R_new' (Kd.R_new' ho0 (Kd.R_lt (by exact rP HO_7.out))) (Kd.R_lt (by exact rP HO_717000.out))) (below_size (by exact bB)));have n3_ := aM (kB hb BK710.out);have n4_ := aM (kB hb BK716.out);have n5_ := aM (below_step (by exact bB) hb);clear HO_7;clear HO_717000;clear BK710;clear BK716;clear HB;have HO_7 := n0_;have HO_717000 := n1_;have HO720 := n2_;have BK710 := n3_;have BK716 := n4_;have HB := n5_;clear n0_ n1_ n2_ n3_ n4_ n5_;(try clear hb);(try clear hb2);(try clear hk);(try clear hi);(try clear ho0)))
     have n0_ := aM (Kd.R_drew HO_7.out)
     have n1_ := aM (Kd.R_drew HO_717000.out)
     have n2_ := aM (Kd.R_drew HO720.out)
     have n3_ := aM (blk_drew BK710.out)
     have n4_ := aM (blk_drew BK716.out)
     have n5_ := aM (below_drew1 HB.out)
     clear HO_7
     clear HO_717000
     clear HO720
     clear BK710
     clear BK716
     clear HB
     have HO_7 := n0_
     have HO_717000 := n1_
     have HO720 := n2_
     have BK710 := n3_
     have BK716 := n4_
     have HB := n5_
     clear n0_ n1_ n2_ n3_ n4_ n5_
     refine start_ (n := 31) (S := fun w' => w'.cell? ⟨gb716, 0, none⟩ = some (.slice Ao18 t713.length co18)) (ds := []) #[false,false,false,false,false,false,false,false,false,false,false,false,false,false,false,false,false,false,false,false,false,false,false,false,false,false,false,false,false,false,false] (by kernel_rfl) rfl rfl ((blk_cell BK716.out 0).trans rfl) (fun hHeld => ?_);refine with_tabW impl_LeastSpreading.tab9 impl_LeastSpreading.bits9 (fun HT_ HW_ => ?_)
     generalize w38.drew = w39 at HO_7 HO_717000 HO720 BK710 BK716 HB hHeld ⊢
     refine pure_ (i := 1) (N := some 30) (v := ?_) (a' := ?_) #[false,true,false,false,false,false,false,false,false,false,false,false,false,false,false,false,false,false,false,false,false,false,false,false,false,false,false,false,false,false,false] rfl rfl (any_of HT_.out (by kernel_rfl)) (fun _ _ _ h => h) (Or.inl ⟨by rfl, ?_⟩) ?_ ?_
     rotate_left
     ·intro w'
      go_simp
      with_reducible rfl
     rotate_left
     ·exact aP
     refine pure_ (i := 2) (N := some 31) (v := ?_) (a' := ?_) #[false,true,true,false,false,false,false,false,false,false,false,false,false,false,false,false,false,false,false,false,false,false,false,false,false,false,false,false,false,false,false] rfl rfl (any_of HT_.out (by kernel_rfl)) (fun _ _ _ h => h) (Or.inl ⟨by rfl, ?_⟩) ?_ ?_
     rotate_left
     ·intro w'
      go_simp
      with_reducible rfl
     rotate_left
     ·exact aP
     refine take_ (i := 0) (N := some 29) (v := ?_) (a' := ?_) #[true,true,true,false,false,false,false,false,false,false,false,false,false,false,false,false,false,false,false,false,false,false,false,false,false,false,false,false,false,false,false] rfl rfl (take_ofW HT_.out HW_.out (by kernel_rfl)) (fun _ _ _ h => h) (Or.inl ⟨by rfl, ?_⟩) hHeld ?_ ?_
     rotate_left
     ·intro w' s0
      go_simp
      with_reducible rfl
     rotate_left
     ·exact aP
     refine take_ (i := 4) (N := some 33) (v := ?_) (a' := ?_) #[true,true,true,false,true,false,false,false,false,false,false,false,false,false,false,false,false,false,false,false,false,false,false,false,false,false,false,false,false,false,false] rfl rfl (take_ofW HT_.out HW_.out (by kernel_rfl)) (fun _ _ _ h => h) (Or.inl ⟨by rfl, ?_⟩) hHeld ?_ ?_
     rotate_left
     ·intro w' s0
      go_simp
      with_reducible rfl
     rotate_left
     ·exact aP
     refine one_ (i := 3) (N := some 32) #[true,true,true,true,true,false,false,false,false,false,false,false,false,false,false,false,false,false,false,false,false,false,false,false,false,false,false,false,false,false,false] rfl rfl (one_of HT_.out (by kernel_rfl)) (by decide) (fun K hK => ?_)
     refine goes_ Try.func97 (by kernel_rfl) rfl #[.agg #[.slice Ao18 t713.length co18], .int .i64 x24_2, .int .i64 a1] (by rfl) rfl rfl mM ?_
     with_reducible refine (impl_net_spread.calls k2 _ _ t713 x24_2 a1 t721 _ ?side1 ?side2 A24.out).mono ?_
     (case side1 => exact cP (Kd.R_reads' HO_717000.out).2.2)
     (case side2 => exact (Kd.R_reads' HO_717000.out).2.1)
     rintro e w40 ⟨rfl, hb⟩
     refine ⟨_, rfl, ?_⟩
     have n0_ := aM (Kd.R_below (by exact rP HO_7.out) hb)
     have n1_ := aM (Kd.R_below (by exact rP HO_717000.out) hb)
     have n2_ := aM (Kd.R_below (by exact rP HO720.out) hb)
     have n3_ := aM (kB hb BK710.out)
     have n4_ := aM (kB hb BK716.out)
     have n5_ := aM (below_step (by exact bB) hb)
     clear HO_7
     clear HO_717000
     clear HO720
     clear BK710
     clear BK716
     clear HB
     have HO_7 := n0_
     have HO_717000 := n1_
     have HO720 := n2_
     have BK710 := n3_
     have BK716 := n4_
     have HB := n5_
     clear n0_ n1_ n2_ n3_ n4_ n5_
     (try clear hb)
     (try clear hb2)
     (try clear hk)
     (try clear hi)
     refine hK.out _ _ ((blk_cell BK716.out 0).trans rfl) (fun hHeld => ?_)
     clear hK K
     refine norm_ (a' := ?_) ?_ ?_
     rotate_left
     ·show Act.put _ (some 32) _ = _
      simp only [Act.put, List.setIfInBounds_toArray, List.set_cons_zero, List.set_cons_succ, i64_w, i32_w]
      rfl
     refine one_ (i := 5) (N := some 34) #[true,true,true,true,true,true,false,false,false,false,false,false,false,false,false,false,false,false,false,false,false,false,false,false,false,false,false,false,false,false,false] rfl rfl (one_of HT_.out (by kernel_rfl)) (by decide) (fun K hK => ?_)
     refine goes_ Try.func73 (by kernel_rfl) rfl #[.agg #[.slice Ao18 t713.length co18]] (by rfl) rfl rfl mM ?_
     with_reducible refine (impl_net_all.calls _ _ t713 t722 _ ?side1 ?side2 A25.out).mono ?_
     (case side1 => exact cP (Kd.R_reads' HO_717000.out).2.2)
     (case side2 => exact (Kd.R_reads' HO_717000.out).2.1)
     rintro e w41 ⟨rfl, hb⟩
     refine ⟨_, rfl, ?_⟩
     have n0_ := aM (Kd.R_below (by exact rP HO_7.out) hb)
     have n1_ := aM (Kd.R_below (by exact rP HO_717000.out) hb)
     have n2_ := aM (Kd.R_below (by exact rP HO720.out) hb)
     have n3_ := aM (kB hb BK710.out)
     have n4_ := aM (kB hb BK716.out)
     have n5_ := aM (below_step (by exact bB) hb)
     clear HO_7
     clear HO_717000
     clear HO720
     clear BK710
     clear BK716
     clear HB
     have HO_7 := n0_
     have HO_717000 := n1_
     have HO720 := n2_
     have BK710 := n3_
     have BK716 := n4_
     have HB := n5_
     clear n0_ n1_ n2_ n3_ n4_ n5_
     (try clear hb)
     (try clear hb2)
     (try clear hk)
     (try clear hi)
     obtain ⟨Ao42, co42, eo42⟩ := Kd.R_slice HO720.out
     (first | subst eo42 | (injection eo42 with f1_ f2_ f3_;have f4_ := f1_.symm;have f5_ := f3_.symm;clear f1_ f2_ f3_;subst f4_;subst f5_))
     obtain ⟨Ao43, co43, eo43⟩ := Kd.R_slice HO_7.out
     (first | subst eo43 | (injection eo43 with f1_ f2_ f3_;have f4_ := f1_.symm;have f5_ := f3_.symm;clear f1_ f2_ f3_;subst f4_;subst f5_))
     refine hK.out _ _ ((blk_cell BK716.out 0).trans rfl) (fun hHeld => ?_)
     clear hK K
     refine norm_ (a' := ?_) ?_ ?_
     rotate_left
     ·show Act.put _ (some 34) _ = _
      simp only [Act.put, List.setIfInBounds_toArray, List.set_cons_zero, List.set_cons_succ, i64_w, i32_w]
      rfl
     refine pure_ (i := 6) (N := some 35) (v := ?_) (a' := ?_) #[true,true,true,true,true,true,true,false,false,false,false,false,false,false,false,false,false,false,false,false,false,false,false,false,false,false,false,false,false,false,false] rfl rfl (any_of HT_.out (by kernel_rfl)) (fun _ _ _ h => h) (Or.inl ⟨by rfl, ?_⟩) ?_ ?_
     rotate_left
     ·intro w'
      go_simp
      with_reducible rfl
     rotate_left
     ·exact aP
     refine pure_ (i := 7) (N := some 36) (v := ?_) (a' := ?_) #[true,true,true,true,true,true,true,true,false,false,false,false,false,false,false,false,false,false,false,false,false,false,false,false,false,false,false,false,false,false,false] rfl rfl (any_of HT_.out (by kernel_rfl)) (fun _ _ _ h => h) (Or.inl ⟨by rfl, ?_⟩) ?_ ?_
     rotate_left
     ·intro w'
      go_simp
      with_reducible rfl
     rotate_left
     ·exact aP
     refine pure_ (i := 8) (N := some 37) (v := ?_) (a' := ?_) #[true,true,true,true,true,true,true,true,true,false,false,false,false,false,false,false,false,false,false,false,false,false,false,false,false,false,false,false,false,false,false] rfl rfl (any_of HT_.out (by kernel_rfl)) (fun _ _ _ h => h) (Or.inl ⟨by rfl, ?_⟩) ?_ ?_
     rotate_left
     ·intro w'
      go_simp
      with_reducible rfl
     rotate_left
     ·exact aP
     refine pure_ (i := 9) (N := some 38) (v := ?_) (a' := ?_) #[true,true,true,true,true,true,true,true,true,true,false,false,false,false,false,false,false,false,false,false,false,false,false,false,false,false,false,false,false,false,false] rfl rfl (any_of HT_.out (by kernel_rfl)) (fun _ _ _ h => h) (Or.inl ⟨by rfl, ?_⟩) ?_ ?_
     rotate_left
     ·intro w'
      go_simp
      with_reducible rfl
     rotate_left
     ·exact aP
     refine pure_ (i := 10) (N := some 39) (v := ?_) (a' := ?_) #[true,true,true,true,true,true,true,true,true,true,true,false,false,false,false,false,false,false,false,false,false,false,false,false,false,false,false,false,false,false,false] rfl rfl (any_of HT_.out (by kernel_rfl)) (fun _ _ _ h => h) (Or.inl ⟨by rfl, ?_⟩) ?_ ?_
     rotate_left
     ·intro w'
      go_simp
      with_reducible rfl
     rotate_left
     ·exact aP
     refine pure_ (i := 11) (N := some 40) (v := ?_) (a' := ?_) #[true,true,true,true,true,true,true,true,true,true,true,true,false,false,false,false,false,false,false,false,false,false,false,false,false,false,false,false,false,false,false] rfl rfl (any_of HT_.out (by kernel_rfl)) (fun _ _ _ h => h) (Or.inl ⟨by rfl, ?_⟩) ?_ ?_
     rotate_left
     ·intro w'
      go_simp
      with_reducible rfl
     rotate_left
     ·exact aP
     refine pure_ (i := 12) (N := some 41) (v := ?_) (a' := ?_) #[true,true,true,true,true,true,true,true,true,true,true,true,true,false,false,false,false,false,false,false,false,false,false,false,false,false,false,false,false,false,false] rfl rfl (any_of HT_.out (by kernel_rfl)) (fun _ _ _ h => h) (Or.inl ⟨by rfl, ?_⟩) ?_ ?_
     rotate_left
     ·intro w'
      go_simp
      with_reducible rfl
     rotate_left
     ·exact aP
     refine pure_ (i := 13) (N := some 42) (v := ?_) (a' := ?_) #[true,true,true,true,true,true,true,true,true,true,true,true,true,true,false,false,false,false,false,false,false,false,false,false,false,false,false,false,false,false,false] rfl rfl (any_of HT_.out (by kernel_rfl)) (fun _ _ _ h => h) (Or.inl ⟨by rfl, ?_⟩) ?_ ?_
     rotate_left
     ·intro w'
      go_simp
      with_reducible rfl
     rotate_left
     ·exact aP
     refine pure_ (i := 14) (N := some 43) (v := ?_) (a' := ?_) #[true,true,true,true,true,true,true,true,true,true,true,true,true,true,true,false,false,false,false,false,false,false,false,false,false,false,false,false,false,false,false] rfl rfl (any_of HT_.out (by kernel_rfl)) (fun _ _ _ h => h) (Or.inl ⟨by rfl, ?_⟩) ?_ ?_
     rotate_left
     ·intro w'
      go_simp
      with_reducible rfl
     rotate_left
     ·exact aP
     refine pure_ (i := 15) (N := some 44) (v := ?_) (a' := ?_) #[true,true,true,true,true,true,true,true,true,true,true,true,true,true,true,true,false,false,false,false,false,false,false,false,false,false,false,false,false,false,false] rfl rfl (any_of HT_.out (by kernel_rfl)) (fun _ _ _ h => h) (Or.inl ⟨by rfl, ?_⟩) ?_ ?_
     rotate_left
     ·intro w'
      go_simp
      with_reducible rfl
     rotate_left
     ·exact aP
     refine pure_ (i := 16) (N := some 45) (v := ?_) (a' := ?_) #[true,true,true,true,true,true,true,true,true,true,true,true,true,true,true,true,true,false,false,false,false,false,false,false,false,false,false,false,false,false,false] rfl rfl (any_of HT_.out (by kernel_rfl)) (fun _ _ _ h => h) (Or.inl ⟨by rfl, ?_⟩) ?_ ?_
     rotate_left
     ·intro w'
      go_simp
      with_reducible rfl
     rotate_left
     ·exact aP
     refine pure_ (i := 17) (N := some 46) (v := ?_) (a' := ?_) #[true,true,true,true,true,true,true,true,true,true,true,true,true,true,true,true,true,true,false,false,false,false,false,false,false,false,false,false,false,false,false] rfl rfl (any_of HT_.out (by kernel_rfl)) (fun _ _ _ h => h) (Or.inl ⟨by rfl, ?_⟩) ?_ ?_
     rotate_left
     ·intro w'
      go_simp
      with_reducible rfl
     rotate_left
     ·exact aP
     refine pure_ (i := 18) (N := some 47) (v := ?_) (a' := ?_) #[true,true,true,true,true,true,true,true,true,true,true,true,true,true,true,true,true,true,true,false,false,false,false,false,false,false,false,false,false,false,false] rfl rfl (any_of HT_.out (by kernel_rfl)) (fun _ _ _ h => h) (Or.inl ⟨by rfl, ?_⟩) ?_ ?_
     rotate_left
     ·intro w'
      go_simp
      with_reducible rfl
     rotate_left
     ·exact aP
     refine pure_ (i := 19) (N := some 48) (v := ?_) (a' := ?_) #[true,true,true,true,true,true,true,true,true,true,true,true,true,true,true,true,true,true,true,true,false,false,false,false,false,false,false,false,false,false,false] rfl rfl (any_of HT_.out (by kernel_rfl)) (fun _ _ _ h => h) (Or.inl ⟨by rfl, ?_⟩) ?_ ?_
     rotate_left
     ·intro w'
      go_simp
      with_reducible rfl
     rotate_left
     ·exact aP
     refine pure_ (i := 20) (N := some 49) (v := ?_) (a' := ?_) #[true,true,true,true,true,true,true,true,true,true,true,true,true,true,true,true,true,true,true,true,true,false,false,false,false,false,false,false,false,false,false] rfl rfl (any_of HT_.out (by kernel_rfl)) (fun _ _ _ h => h) (Or.inl ⟨by rfl, ?_⟩) ?_ ?_
     rotate_left
     ·intro w'
      go_simp
      with_reducible rfl
     rotate_left
     ·exact aP
     refine pure_ (i := 21) (N := some 50) (v := ?_) (a' := ?_) #[true,true,true,true,true,true,true,true,true,true,true,true,true,true,true,true,true,true,true,true,true,true,false,false,false,false,false,false,false,false,false] rfl rfl (any_of HT_.out (by kernel_rfl)) (fun _ _ _ h => h) (Or.inl ⟨by rfl, ?_⟩) ?_ ?_
     rotate_left
     ·intro w'
      go_simp
      with_reducible rfl
     rotate_left
     ·exact aP
     refine pure_ (i := 22) (N := some 51) (v := ?_) (a' := ?_) #[true,true,true,true,true,true,true,true,true,true,true,true,true,true,true,true,true,true,true,true,true,true,true,false,false,false,false,false,false,false,false] rfl rfl (any_of HT_.out (by kernel_rfl)) (fun _ _ _ h => h) (Or.inl ⟨by rfl, ?_⟩) ?_ ?_
     rotate_left
     ·intro w'
      go_simp
      with_reducible rfl
     rotate_left
     ·exact aP
     refine pure_ (i := 23) (N := some 52) (v := ?_) (a' := ?_) #[true,true,true,true,true,true,true,true,true,true,true,true,true,true,true,true,true,true,true,true,true,true,true,true,false,false,false,false,false,false,false] rfl rfl (any_of HT_.out (by kernel_rfl)) (fun _ _ _ h => h) (Or.inl ⟨by rfl, ?_⟩) ?_ ?_
     rotate_left
     ·intro w'
      go_simp
      with_reducible rfl
     rotate_left
     ·exact aP
     refine pure_ (i := 24) (N := some 53) (v := ?_) (a' := ?_) #[true,true,true,true,true,true,true,true,true,true,true,true,true,true,true,true,true,true,true,true,true,true,true,true,true,false,false,false,false,false,false] rfl rfl (any_of HT_.out (by kernel_rfl)) (fun _ _ _ h => h) (Or.inl ⟨by rfl, ?_⟩) ?_ ?_
     rotate_left
     ·intro w'
      go_simp
      with_reducible rfl
     rotate_left
     ·exact aP
     refine pure_ (i := 25) (N := some 54) (v := ?_) (a' := ?_) #[true,true,true,true,true,true,true,true,true,true,true,true,true,true,true,true,true,true,true,true,true,true,true,true,true,true,false,false,false,false,false] rfl rfl (any_of HT_.out (by kernel_rfl)) (fun _ _ _ h => h) (Or.inl ⟨by rfl, ?_⟩) ?_ ?_
     rotate_left
     ·intro w'
      go_simp
      with_reducible rfl
     rotate_left
     ·exact aP
     refine one_ (i := 26) (N := some 55) #[true,true,true,true,true,true,true,true,true,true,true,true,true,true,true,true,true,true,true,true,true,true,true,true,true,true,true,false,false,false,false] rfl rfl (one_of HT_.out (by kernel_rfl)) (by decide) (fun K hK => ?_)
     refine goes_ Try.func106 (by kernel_rfl) rfl #[.slice Ao42 t718.length co42, .slice Ao43 x7_2.length co43] (by rfl) rfl rfl mM ?_
     with_reducible refine (slices_Compare_int_int.calls k2 _ _ t718 _ _ x7_2 t723 _ ?side1 ?side2 ?side3 ?side4 A36.out).mono ?_
     (case side1 => exact cP (Kd.R_reads' HO720.out).2.2)
     (case side2 => exact (Kd.R_reads' HO720.out).2.1)
     (case side3 => exact cP (Kd.R_reads' HO_7.out).2.2)
     (case side4 => exact (Kd.R_reads' HO_7.out).2.1)
     rintro e w' ⟨rfl, ⟨nd, rfl⟩⟩
     refine ⟨_, rfl, ?_⟩
     refine hK.out _ _ ((blk_cell BK716.out 0).trans rfl) (fun hHeld => ?_)
     clear hK K
     refine norm_ (a' := ?_) ?_ ?_
     rotate_left
     ·show Act.put _ (some 55) _ = _
      simp only [Act.put, List.setIfInBounds_toArray, List.set_cons_zero, List.set_cons_succ, i64_w, i32_w]
      rfl
     refine pure_ (i := 27) (N := some 56) (v := ?_) (a' := ?_) #[true,true,true,true,true,true,true,true,true,true,true,true,true,true,true,true,true,true,true,true,true,true,true,true,true,true,true,true,false,false,false] rfl rfl (any_of HT_.out (by kernel_rfl)) (fun _ _ _ h => h) (Or.inl ⟨by rfl, ?_⟩) ?_ ?_
     rotate_left
     ·intro w'
      go_simp
      with_reducible rfl
     rotate_left
     ·exact aP
     refine pure_ (i := 28) (N := some 57) (v := ?_) (a' := ?_) #[true,true,true,true,true,true,true,true,true,true,true,true,true,true,true,true,true,true,true,true,true,true,true,true,true,true,true,true,true,false,false] rfl rfl (any_of HT_.out (by kernel_rfl)) (fun _ _ _ h => h) (Or.inl ⟨by rfl, ?_⟩) ?_ ?_
     rotate_left
     ·intro w'
      go_simp
      with_reducible rfl
     rotate_left
     ·exact aP
     refine pure_ (i := 29) (N := some 58) (v := ?_) (a' := ?_) #[true,true,true,true,true,true,true,true,true,true,true,true,true,true,true,true,true,true,true,true,true,true,true,true,true,true,true,true,true,true,false] rfl rfl (any_of HT_.out (by kernel_rfl)) (fun _ _ _ h => h) (Or.inl ⟨by rfl, ?_⟩) ?_ ?_
     rotate_left
     ·intro w'
      go_simp
      with_reducible rfl
     rotate_left
     ·exact aP
     refine pure_ (i := 30) (N := some 59) (v := ?_) (a' := ?_) #[true,true,true,true,true,true,true,true,true,true,true,true,true,true,true,true,true,true,true,true,true,true,true,true,true,true,true,true,true,true,true] rfl rfl (any_of HT_.out (by kernel_rfl)) (fun _ _ _ h => h) (Or.inl ⟨by rfl, ?_⟩) ?_ ?_
     rotate_left
     ·intro w'
      go_simp
      with_reducible rfl
     rotate_left
     ·exact aP
     refine done_ (done_of HT_.out (by kernel_rfl)) ?_
     try go_wp2
     go_roundg k2
     case measure => have := HJ2.out;have := HK2.out;omega
     case rel => exact ⟨(t718), (true), (wrap64 (x24_2 + 1)), (by first | rfl | (simp;done) | (simp [*];done)), (by first | rfl | (simp;done) | (simp [*];done)), H', ⟨by have := HJ2.out;have := HK2.out;omega⟩, ⟨by refine rP ?_;exact Kd.R_mono HO720.out (fun _ hk => hk.2)⟩, ⟨by refine rP ?_;exact Kd.R_mono HO_717000.out (fun _ hk => hk.2)⟩, ⟨by exact kP BK710.out⟩, ⟨by exact kP BK716.out⟩, ⟨by exact bB⟩⟩


end Go.Proofs.Ytmokkhfmbenleaa.QSpreading
