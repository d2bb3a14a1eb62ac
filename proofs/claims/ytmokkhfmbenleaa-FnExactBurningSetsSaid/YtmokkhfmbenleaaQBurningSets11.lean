import Derived.Test.YtmokkhfmbenleaaQBurningSets0
import Derived.Test.YtmokkhfmbenleaaQBurningSets8
import Derived.Test.YtmokkhfmbenleaaQBurningSets9
namespace Go.Proofs.Ytmokkhfmbenleaa.QBurningSets
open Go.RowKit Go.Proofs.YtmokkhfmbenleaaW.PrintWords Go.Proofs.YtmokkhfmbenleaaW.PrintLast Go.Proofs.YtmokkhfmbenleaaW.PrintMore
attribute [local go_sem] max2_int min2_int max_two min_two max_three min_three max_four min_four   -- for this text's walks alone
set_option linter.unusedVariables false
set_option linter.unusedSimpArgs false
/-! ### spec_l8Burn: function 65 -/
mutual
def spec_l8Burn.l0 : Nat → List (List Int) → List (S71) → Int → Int → List (S119) → Option ((List (S71)))
 | 0, _, _, _, _, _ => none
 | k + 1, x2, x7, x8, x240000, x240001 => if x8 < (x2.length : Int) then (spec_l8Burn.j1 k x2 x7 x8 true x240000 x240001) else (if 0 ≤ x8 then (if x8 < (x7.length : Int) then ((spec_l8Next.f k x240000 x240001 ((rd_T71 x7 x8).f0) ((rd_T71 x7 x8).f1)).bind fun t247 => (spec_l8Burn.j1 k x2 x7 x8 (decide ((t247.length : Int) > 0)) x240000 x240001)) else (none)) else (none))
def spec_l8Burn.j1 : Nat → List (List Int) → List (S71) → Int → Bool → Int → List (S119) → Option ((List (S71)))
 | 0, _, _, _, _, _, _ => none
 | k + 1, x2, x7, x8, x27, x240000, x240001 => if x27 = true then (if x8 < (x2.length : Int) then (if 0 ≤ x8 then (if x8 < (x7.length : Int) then ((spec_l8Round.f k x240000 x240001 ((rd_T71 x7 x8).f0) ((rd_T71 x7 x8).f1) (rd_L2 x2 x8)).bind fun bt255 => (if x7.length < 2932031007402 then (spec_l8Burn.l0 k x2 (x7 ++ [(⟨bt255.1, bt255.2⟩ : S71)]) (wrap64 (x8 + 1)) x240000 x240001) else (none))) else (none)) else (none)) else (if 0 ≤ x8 then (if x8 < (x7.length : Int) then ((spec_l8Round.f k x240000 x240001 ((rd_T71 x7 x8).f0) ((rd_T71 x7 x8).f1) (([] : List Int))).bind fun bt265 => (if x7.length < 2932031007402 then (spec_l8Burn.l0 k x2 (x7 ++ [(⟨bt265.1, bt265.2⟩ : S71)]) (wrap64 (x8 + 1)) x240000 x240001) else (none))) else (none)) else (none))) else (some x7)
end
def spec_l8Burn.f (k : Nat) (a0_0 : Int) (l0_1 : List (S119)) (a1 : Int) (l2 : List (List Int)) : Option ((List (S71))) := spec_l8Burn.l0 k l2 (([(⟨(([a1] : List Int)), ([] : List Int)⟩ : S71)] : List (S71))) 0 a0_0 l0_1
theorem spec_l8Burn.mono_l : ∀ k, (∀ y0 y1 y2 y3 y4, LeO (spec_l8Burn.l0 k y0 y1 y2 y3 y4) (spec_l8Burn.l0 (k + 1) y0 y1 y2 y3 y4)) ∧ (∀ y0 y1 y2 y3 y4 y5, LeO (spec_l8Burn.j1 k y0 y1 y2 y3 y4 y5) (spec_l8Burn.j1 (k + 1) y0 y1 y2 y3 y4 y5))
 | 0 => ⟨fun _ _ _ _ _ r h => by simp [spec_l8Burn.l0] at h, fun _ _ _ _ _ _ r h => by simp [spec_l8Burn.j1] at h⟩
 | k + 1 => by
  obtain ⟨ih0, ih1⟩ := spec_l8Burn.mono_l k
  refine ⟨?_, ?_⟩
  ·intro y0 y1 y2 y3 y4
   unfold spec_l8Burn.l0
   repeat' first
   | (with_reducible exact ih0 _ _ _ _ _)
   | (with_reducible exact ih1 _ _ _ _ _ _)
   | (with_reducible exact spec_l8Next.mono _ _ _ _ _)
   | (with_reducible exact spec_l8Round.mono _ _ _ _ _ _)
   | (with_reducible exact LeO.refl _)
   | (with_reducible exact LeO.none _)
   | (with_reducible refine LeO.ite ?_ ?_)
   | (with_reducible refine LeO.bind ?_ (fun _ => ?_))
   | exact ih0 _ _ _ _ _
   | exact ih1 _ _ _ _ _ _
   | exact spec_l8Next.mono _ _ _ _ _
   | exact spec_l8Round.mono _ _ _ _ _ _
   | exact LeO.none _
   | refine LeO.ite ?_ ?_
   | refine LeO.bind ?_ (fun _ => ?_)
  ·intro y0 y1 y2 y3 y4 y5
   unfold spec_l8Burn.j1
   repeat' first
   | (with_reducible exact ih0 _ _ _ _ _)
   | (with_reducible exact ih1 _ _ _ _ _ _)
   | (with_reducible exact spec_l8Next.mono _ _ _ _ _)
   | (with_reducible exact spec_l8Round.mono _ _ _ _ _ _)
   | (with_reducible exact LeO.refl _)
   | (with_reducible exact LeO.none _)
   | (with_reducible refine LeO.ite ?_ ?_)
   | (with_reducible refine LeO.bind ?_ (fun _ => ?_))
   | exact ih0 _ _ _ _ _
   | exact ih1 _ _ _ _ _ _
   | exact spec_l8Next.mono _ _ _ _ _
   | exact spec_l8Round.mono _ _ _ _ _ _
   | exact LeO.none _
   | refine LeO.ite ?_ ?_
   | refine LeO.bind ?_ (fun _ => ?_)
theorem spec_l8Burn.mono : ∀ a0 a1 a2 a3 k, LeO (spec_l8Burn.f k a0 a1 a2 a3) (spec_l8Burn.f (k + 1) a0 a1 a2 a3) := by
 intro a0 a1 a2 a3 k
 obtain ⟨ih0, ih1⟩ := spec_l8Burn.mono_l k
 unfold spec_l8Burn.f
 repeat' first
   | (with_reducible exact ih0 _ _ _ _ _)
   | (with_reducible exact ih1 _ _ _ _ _ _)
   | (with_reducible exact spec_l8Next.mono _ _ _ _ _)
   | (with_reducible exact spec_l8Round.mono _ _ _ _ _ _)
   | (with_reducible exact LeO.refl _)
   | (with_reducible exact LeO.none _)
   | (with_reducible refine LeO.ite ?_ ?_)
   | (with_reducible refine LeO.bind ?_ (fun _ => ?_))
   | exact ih0 _ _ _ _ _
   | exact ih1 _ _ _ _ _ _
   | exact spec_l8Next.mono _ _ _ _ _
   | exact spec_l8Round.mono _ _ _ _ _ _
   | exact LeO.none _
   | refine LeO.ite ?_ ?_
   | refine LeO.bind ?_ (fun _ => ?_)
def spec_l8Burn.T3 : Bool × List (List Nat × List Nat) := (true, [([], []), ([], []), ([1], [1]), ([0, 2], [0, 2]), ([3], [3]), ([4], [4]), ([4], [4]), ([4], [4]), ([6, 7, 4], [4, 6, 7]), ([8, 4], [4, 8]), ([5, 9, 4, 4], [4, 5, 9]), ([10, 4], [4, 10]), ([11, 4], [4, 11]), ([4, 12], [4, 12])])
def spec_l8Burn.B3 : List Nat := [0, 0, 2, 7, 15, 31, 31, 31, 223, 479, 1023, 2047, 4095, 8191]
theorem spec_l8Burn.tab3 : rtab .any (opsOf Try.f65 3) = spec_l8Burn.T3 := by kernel_rfl
theorem spec_l8Burn.bits3 : waitsOk spec_l8Burn.T3.2 spec_l8Burn.B3 = true := by kernel_rfl
def spec_l8Burn.T8 : Bool × List (List Nat × List Nat) := (true, [([], []), ([], []), ([], []), ([], []), ([2, 3], [2, 3]), ([4], [4]), ([], []), ([1, 5, 6], [1, 5, 6]), ([7], [7]), ([0, 8, 7], [0, 8]), ([9, 9, 0, 1, 2, 3, 4, 5, 6, 7, 8, 9], [0, 2, 9])])
def spec_l8Burn.B8 : List Nat := [0, 0, 0, 0, 12, 28, 0, 126, 254, 511, 1023]
theorem spec_l8Burn.tab8 : rtab .any (opsOf Try.f65 8) = spec_l8Burn.T8 := by kernel_rfl
theorem spec_l8Burn.bits8 : waitsOk spec_l8Burn.T8.2 spec_l8Burn.B8 = true := by kernel_rfl
set_option maxHeartbeats 8000000 in
set_option maxRecDepth 100000 in
theorem spec_l8Burn.calls (k : Nat) (a0_0 : Int) (A0_1 : Option Addr) (c0_1 : Nat) (l0_1 : List (S119)) (a1 : Int) (A2 : Option Addr) (c2 : Nat) (l2 : List (List Int)) (r : List (S71)) (w : World) (hr0_1 : Kd.C k119 w A0_1 l0_1.length l0_1) (hc0_1 : l0_1.length ≤ c0_1) (hr2 : Kd.C (Kd.slice 3 (Kd.int .i64)) w A2 l2.length l2) (hc2 : l2.length ≤ c2) (h : spec_l8Burn.f k a0_0 l0_1 a1 l2 = some r) :
  Calls Try.prog 65 #[.agg #[.int .i64 a0_0, .slice A0_1 l0_1.length c0_1], .int .i64 a1, .slice A2 l2.length c2] w fun e w' => ∃ v0_ : Value, e = .returned (v0_) ∧ Kd.N k71 71 w' w.heap.size (fun k_ => (w.heap.size ≤ k_)) v0_ r ∧ Below w.heap.size w w' := by
 have hu31 := Try.underlying31
 have hu71 := Try.underlying71
 have HR0_1 := Aside0.mk hr0_1
 have HC0_1 := Aside0.mk hc0_1
 clear hr0_1 hc0_1
 have HR2 := Aside0.mk hr2
 have HC2 := Aside0.mk hc2
 clear hr2 hc2
 have HB := Aside0.mk (Below.refl w.heap.size w)
 have H : (spec_l8Burn.l0 k l2 (([(⟨(([a1] : List Int)), ([] : List Int)⟩ : S71)] : List (S71))) 0 a0_0 l0_1) = some r := h
 clear h
 obtain ⟨y240, hy240⟩ : ∃ y_ : List Int, y_ = (([a1] : List Int)) := ⟨_, rfl⟩
 replace H : (spec_l8Burn.l0 k l2 (([(⟨y240, ([] : List Int)⟩ : S71)] : List (S71))) 0 a0_0 l0_1) = some r := by first | (rw [hy240];with_reducible exact H) | (have H2_ := (Option.bind_some _ _).symm.trans H;rw [hy240];with_reducible exact H2_) | (have H2_ := (Option.bind_some _ _).symm.trans H;with_reducible exact H2_) | with_reducible exact H | (rw [hy240];exact H) | exact H
 have Ny240 := Aside0.mk hy240
 clear hy240
 obtain ⟨y243, hy243⟩ : ∃ y_ : List (S71), y_ = (([(⟨y240, ([] : List Int)⟩ : S71)] : List (S71))) := ⟨_, rfl⟩
 replace H : (spec_l8Burn.l0 k l2 y243 0 a0_0 l0_1) = some r := by first | (rw [hy243];with_reducible exact H) | (have H2_ := (Option.bind_some _ _).symm.trans H;rw [hy243];with_reducible exact H2_) | (have H2_ := (Option.bind_some _ _).symm.trans H;with_reducible exact H2_) | with_reducible exact H | (rw [hy243];exact H) | exact H
 have Ny243 := Aside0.mk hy243
 clear hy243
 have H' := Aside0.mk H
 clear H
 go_enter Try.func65, Try.ntmps65
 go_wp2_with (first | ((with_reducible refine gate_dst (N := 3) rfl ?_);(try (refine gate_guard (by rfl) ?_;dsimp only));refine box_event ?hg (N := 3) ?hd (cs := #[.int .i64 a0_0, .slice A0_1 l0_1.length c0_1]) (t := 31) ?hr ?_;(case hd => rfl);(case hg => rfl);(case hr => first | (go_simp;done) | (go_simp;rfl));intro gb239 hg w4 hbox hb;have n0_ := Aside0.mk (below_step (by exact bB) hb);have n1_ := Aside0.mk (hbox);have n2_ := Aside0.mk ((by rw [hg];exact (below_size (by exact bB)) : w.heap.size ≤ gb239));have n3_ := Aside0.mk ((by rw [hg];exact (below_size (by exact bB)) : w.heap.size ≤ gb239));clear HB;have HB := n0_;have BK239 := n1_;have GW239 := n2_;have GE239 := n3_;clear n0_ n1_ n2_ n3_;clear hb hbox hg) | ((with_reducible refine gate_dst (N := 11) rfl ?_);(try (refine gate_guard (by rfl) ?_;dsimp only));refine Kd.R_lit (Kd.int .i64) _ 3 ?hg (N := 11) ?hd (xs := ([a1] : List Int)) (inner := [.int .i64 a1]) (ok := fun _ => True) (okp := fun _ => True) ?hr ?hp (fun _ hk => hk) trivial (Below.refl _ _) (Nat.le_refl _) (by simp) ?_;(case hd => rfl);(case hg => rfl);(case hr => first | (go_simp;done) | (go_simp;rfl));(case hp => exact (Reps.one (show Kd.M (Kd.int .i64) _ _ _ a1 [.int .i64 a1] from rfl) (Reps.none _ _)));intro v241 w5 ho6 hb hg_ hnew_;clear hg_ hnew_;(first | rw [← Ny240.out] at ho6 | (simp only [Int.reduceToNat] at ho6;rw [← Ny240.out] at ho6));have n0_ := Aside0.mk (Kd.R_lower (Kd.R_newM (M := fun k_ => (w.heap.size ≤ k_)) ho6 (below_size (by exact bB)) (fun k_ h_ => h_)) (below_size (by exact bB)));have n1_ := Aside0.mk (blk_below (g := gb239) (o := .cells #[.int .i64 a0_0, .slice A0_1 l0_1.length c0_1] 31 (0, 0)) (by exact kP BK239.out) hb);have n2_ := Aside0.mk (below_step (by exact bB) hb);clear BK239;clear HB;have HO242 := n0_;have BK239 := n1_;have HB := n2_;clear n0_ n1_ n2_;clear hb ho6;obtain ⟨Ao7, co7, eo7⟩ := Kd.R_slice HO242.out;subst eo7) | ((with_reducible refine gate_dst (N := 13) rfl ?_);(try (refine gate_guard (by rfl) ?_;dsimp only));refine Kd.N_lit k71 _ 71 ?hg (N' := 13) ?hd (xs := ([(⟨y240, ([] : List Int)⟩ : S71)] : List (S71))) (inner := [.slice Ao7 y240.length co7, .slice none 0 0]) (ok := (fun k_ => (w.heap.size ≤ k_) ∧ k_ ≠ gb239)) (okp := (fun k_ => (w.heap.size ≤ k_) ∧ k_ ≠ gb239)) ?hr ?hp (fun _ hk => hk) ((show ∀ k_, w5.heap.size ≤ k_ → (fun k_ => (w.heap.size ≤ k_) ∧ k_ ≠ gb239) k_ from fun k_ hk => ⟨(Nat.le_trans (below_size (by exact bB)) hk), Kd.freshB (g := gb239) (o := .cells #[.int .i64 a0_0, .slice A0_1 l0_1.length c0_1] 31 (0, 0)) (by exact kP BK239.out) k_ hk⟩) _ (Nat.le_refl _)) (Below.refl _ _) (Nat.le_refl _) (by simp) ?_;(case hd => rfl);(case hg => rfl);(case hr => first | (go_simp;done) | (go_simp;rfl));(case hp => exact (Reps.c2 (show Kd.FK k71 _ _ (⟨y240, ([] : List Int)⟩ : S71) [.slice Ao7 y240.length co7, .slice none 0 0] from (k71_mkF _ _ (⟨y240, ([] : List Int)⟩ : S71) (Kd.R_reads' (Kd.R_mono (ok' := (fun k_ => (w.heap.size ≤ k_) ∧ k_ ≠ gb239)) (Kd.R_types (HO242.out) BK239.out (by decide)) (fun k_ hk => ⟨hk.1.1, hk.2⟩))).2.1 (Kd.R_F (Kd.R_mono (ok' := (fun k_ => (w.heap.size ≤ k_) ∧ k_ ≠ gb239)) (Kd.R_types (HO242.out) BK239.out (by decide)) (fun k_ hk => ⟨hk.1.1, hk.2⟩))) (Nat.le_refl _) (Kd.F_nil _ _ _))) (Reps.none _ _)));intro v244 w8 ho9 hb hg_ hnew_;clear hg_ hnew_;(first | rw [← Ny243.out] at ho9 | (simp only [Int.reduceToNat] at ho9;rw [← Ny243.out] at ho9));have n0_ := Aside0.mk (Kd.N_lower ho9 (below_size (by exact bB)));have n1_ := Aside0.mk (blk_below (g := gb239) (o := .cells #[.int .i64 a0_0, .slice A0_1 l0_1.length c0_1] 31 (0, 0)) (by exact kP BK239.out) hb);have n2_ := Aside0.mk (below_step (by exact bB) hb);clear BK239;clear HB;clear HO242;have HO245 := n0_;have BK239 := n1_;have HB := n2_;clear n0_ n1_ n2_;clear hb ho9))
 go_loopg [7, 8] k (fun kq v7 v8 w' => ∃ (x7_1 : List (S71)) (x8_1 : Int), v8 = .int .i64 x8_1 ∧ Aside0 (spec_l8Burn.l0 kq l2 x7_1 x8_1 a0_0 l0_1 = some r) ∧ Aside0 (kq ≤ k) ∧ Aside0 (Kd.N k71 71 w' w.heap.size (fun k_ => (w.heap.size ≤ k_) ∧ k_ ≠ gb239) v7 x7_1) ∧ Aside0 (w'.heap[gb239]? = some (.cells #[.int .i64 a0_0, (.slice A0_1 l0_1.length c0_1)] 31 (0, 0))) ∧ Aside0 (Below w.heap.size w w'))
 case atStart => exact ⟨(y243), (0), (by first | rfl | (simp;done) | (simp [*];done)), H', ⟨Nat.le_refl _⟩, ⟨by (with_reducible repeat (first | apply Kd.N_alloc | apply Kd.N_drewN | apply Kd.N_drew));exact HO245.out⟩, ⟨by exact kP BK239.out⟩, ⟨by exact bB⟩⟩
 case round =>
  clear H'
  try clear c2
  try clear p2
  try clear c6
  obtain ⟨x7_1, x8_1, rfl, HA, HK1, HO_7, BK239, HB⟩ := hrel
  cases gk with
  | zero => exact absurd HA.out (by simp [spec_l8Burn.l0])
  | succ k1 =>
   have H := HA.out
   clear HA
   simp only [spec_l8Burn.l0] at H
   have HC10 := Aside0.mk H
   clear H
   go_upto_region 3 with (fail)
   go_cut [27] (fun v27 wc => ∃ (kq : Nat) (x27_9 : Bool), v27 = .bool x27_9 ∧ Aside0 (spec_l8Burn.j1 kq l2 x7_1 x8_1 x27_9 a0_0 l0_1 = some r) ∧ Aside0 (kq ≤ k1) ∧ Aside0 (Kd.N k71 71 wc w.heap.size (fun k_ => (w.heap.size ≤ k_) ∧ k_ ≠ gb239) u7 x7_1) ∧ Aside0 (wc.heap[gb239]? = some (.cells #[.int .i64 a0_0, (.slice A0_1 l0_1.length c0_1)] 31 (0, 0))) ∧ Aside0 (Below w.heap.size w wc))
   case first =>
    have H := HC10.out
    clear HC10
    by_cases c11 : x8_1 < (l2.length : Int)
    ·rw [if_pos c11] at H
     have c11b0 : decide (x8_1 < (l2.length : Int)) = true := decide_eq_true c11
     clear c11
     (first | rw [c11b0] | (simp only [i64_w, i32_w];rw [c11b0]) | skip)
     have H' := Aside0.mk H
     clear H
     try go_wp2
     have n0_ := Aside0.mk (Kd.N_drew HO_7.out)
     have n1_ := Aside0.mk (blk_drew BK239.out)
     have n2_ := Aside0.mk (below_drew1 HB.out)
     clear HO_7
     clear BK239
     clear HB
     have HO_7 := n0_
     have BK239 := n1_
     have HB := n2_
     clear n0_ n1_ n2_
     refine start_ (n := 14) (S := fun w' => True) (ds := []) #[false,false,false,false,false,false,false,false,false,false,false,false,false,false] (by kernel_rfl) rfl rfl trivial (fun hHeld => ?_);refine with_tabW spec_l8Burn.tab3 spec_l8Burn.bits3 (fun HT_ HW_ => ?_)
     generalize wr.drew = w12 at HO_7 BK239 HB hHeld ⊢
     refine pure_ (i := 0) (N := some 14) (v := ?_) (a' := ?_) #[true,false,false,false,false,false,false,false,false,false,false,false,false,false] rfl rfl (any_of HT_.out (by kernel_rfl)) (fun _ _ _ h => h) (Or.inl ⟨by rfl, ?_⟩) ?_ ?_
     rotate_left
     ·intro w'
      go_simp
      with_reducible rfl
     rotate_left
     ·simp only [Act.put, List.setIfInBounds_toArray, List.set_cons_zero, List.set_cons_succ, i64_w, i32_w]
      rfl
     refine pure_ (i := 1) (N := some 15) (v := ?_) (a' := ?_) #[true,true,false,false,false,false,false,false,false,false,false,false,false,false] rfl rfl (any_of HT_.out (by kernel_rfl)) (fun _ _ _ h => h) (Or.inl ⟨by rfl, ?_⟩) ?_ ?_
     rotate_left
     ·intro w'
      go_simp
      with_reducible rfl
     rotate_left
     ·simp only [Act.put, List.setIfInBounds_toArray, List.set_cons_zero, List.set_cons_succ, i64_w, i32_w]
      rfl
     refine pure_ (i := 2) (N := some 16) (v := ?_) (a' := ?_) #[true,true,true,false,false,false,false,false,false,false,false,false,false,false] rfl rfl (any_of HT_.out (by kernel_rfl)) (fun _ _ _ h => h) (Or.inl ⟨by rfl, ?_⟩) ?_ ?_
     rotate_left
     ·intro w'
      go_simp
      with_reducible rfl
     rotate_left
     ·simp only [Act.put, List.setIfInBounds_toArray, List.set_cons_zero, List.set_cons_succ, i64_w, i32_w]
      rfl
     refine pure_ (i := 3) (N := some 17) (v := ?_) (a' := ?_) #[true,true,true,true,false,false,false,false,false,false,false,false,false,false] rfl rfl (any_of HT_.out (by kernel_rfl)) (fun _ _ _ h => h) (Or.inl ⟨by rfl, ?_⟩) ?_ ?_
     rotate_left
     ·intro w'
      go_simp
      with_reducible rfl
     rotate_left
     ·simp only [Act.put, List.setIfInBounds_toArray, List.set_cons_zero, List.set_cons_succ, i64_w, i32_w]
      rfl
     refine pure_ (i := 4) (N := some 18) (v := ?_) (a' := ?_) #[true,true,true,true,true,false,false,false,false,false,false,false,false,false] rfl rfl (any_of HT_.out (by kernel_rfl)) (fun _ _ _ h => h) (Or.inl ⟨by rfl, ?_⟩) ?_ ?_
     rotate_left
     ·intro w'
      go_simp
      with_reducible rfl
     rotate_left
     ·simp only [Act.put, List.setIfInBounds_toArray, List.set_cons_zero, List.set_cons_succ, i64_w, i32_w]
      rfl
     refine pure_ (i := 5) (N := some 19) (v := undef) (a' := ?_) #[true,true,true,true,true,true,false,false,false,false,false,false,false,false] rfl rfl (any_of HT_.out (by kernel_rfl)) (fun _ _ _ h => h) (Or.inr ⟨by rfl, rfl⟩) ?_ ?_
     rotate_left
     ·simp only [Act.put, List.setIfInBounds_toArray, List.set_cons_zero, List.set_cons_succ, i64_w, i32_w]
      rfl
     refine pure_ (i := 6) (N := some 20) (v := undef) (a' := ?_) #[true,true,true,true,true,true,true,false,false,false,false,false,false,false] rfl rfl (any_of HT_.out (by kernel_rfl)) (fun _ _ _ h => h) (Or.inr ⟨by rfl, rfl⟩) ?_ ?_
     rotate_left
     ·simp only [Act.put, List.setIfInBounds_toArray, List.set_cons_zero, List.set_cons_succ, i64_w, i32_w]
      rfl
     refine pure_ (i := 7) (N := some 21) (v := undef) (a' := ?_) #[true,true,true,true,true,true,true,true,false,false,false,false,false,false] rfl rfl (any_of HT_.out (by kernel_rfl)) (fun _ _ _ h => h) (Or.inr ⟨by rfl, rfl⟩) ?_ ?_
     rotate_left
     ·simp only [Act.put, List.setIfInBounds_toArray, List.set_cons_zero, List.set_cons_succ, i64_w, i32_w]
      rfl
     refine pure_ (i := 8) (N := some 22) (v := undef) (a' := ?_) #[true,true,true,true,true,true,true,true,true,false,false,false,false,false] rfl rfl (any_of HT_.out (by kernel_rfl)) (fun _ _ _ h => h) (Or.inr ⟨by rfl, rfl⟩) ?_ ?_
     rotate_left
     ·simp only [Act.put, List.setIfInBounds_toArray, List.set_cons_zero, List.set_cons_succ, i64_w, i32_w]
      rfl
     refine pure_ (i := 9) (N := some 23) (v := undef) (a' := ?_) #[true,true,true,true,true,true,true,true,true,true,false,false,false,false] rfl rfl (any_of HT_.out (by kernel_rfl)) (fun _ _ _ h => h) (Or.inr ⟨by rfl, rfl⟩) ?_ ?_
     rotate_left
     ·simp only [Act.put, List.setIfInBounds_toArray, List.set_cons_zero, List.set_cons_succ, i64_w, i32_w]
      rfl
     refine pure_ (i := 10) (N := some 24) (v := undef) (a' := ?_) #[true,true,true,true,true,true,true,true,true,true,true,false,false,false] rfl rfl (any_of HT_.out (by kernel_rfl)) (fun _ _ _ h => h) (Or.inr ⟨by rfl, rfl⟩) ?_ ?_
     rotate_left
     ·simp only [Act.put, List.setIfInBounds_toArray, List.set_cons_zero, List.set_cons_succ, i64_w, i32_w]
      rfl
     refine pure_ (i := 11) (N := some 25) (v := undef) (a' := ?_) #[true,true,true,true,true,true,true,true,true,true,true,true,false,false] rfl rfl (any_of HT_.out (by kernel_rfl)) (fun _ _ _ h => h) (Or.inr ⟨by rfl, rfl⟩) ?_ ?_
     rotate_left
     ·simp only [Act.put, List.setIfInBounds_toArray, List.set_cons_zero, List.set_cons_succ, i64_w, i32_w]
      rfl
     refine pure_ (i := 12) (N := some 26) (v := undef) (a' := ?_) #[true,true,true,true,true,true,true,true,true,true,true,true,true,false] rfl rfl (any_of HT_.out (by kernel_rfl)) (fun _ _ _ h => h) (Or.inr ⟨by rfl, rfl⟩) ?_ ?_
     rotate_left
     ·simp only [Act.put, List.setIfInBounds_toArray, List.set_cons_zero, List.set_cons_succ, i64_w, i32_w]
      rfl
     refine pure_ (i := 13) (N := some 27) (v := ?_) (a' := ?_) #[true,true,true,true,true,true,true,true,true,true,true,true,true,true] rfl rfl (any_of HT_.out (by kernel_rfl)) (fun _ _ _ h => h) (Or.inl ⟨by rfl, ?_⟩) ?_ ?_
     rotate_left
     ·intro w'
      go_simp
      with_reducible rfl
     rotate_left
     ·simp only [Act.put, List.setIfInBounds_toArray, List.set_cons_zero, List.set_cons_succ, i64_w, i32_w]
      rfl
     refine done_ (done_of HT_.out (by kernel_rfl)) ?_
     try go_wp2
     go_meet
     case rel => exact ⟨_, (true), (by first | rfl | (simp;done) | (simp [*];done)), H', ⟨by have := HK1.out;first | omega | exact Nat.le_refl _⟩, ⟨by (with_reducible repeat (first | apply Kd.N_alloc | apply Kd.N_drewN | apply Kd.N_drew));exact HO_7.out⟩, ⟨by exact kP BK239.out⟩, ⟨by exact bB⟩⟩
    ·rw [if_neg c11] at H
     have c11b0 : decide (x8_1 < (l2.length : Int)) = false := decide_eq_false c11
     clear c11
     (first | rw [c11b0] | (simp only [i64_w, i32_w];rw [c11b0]) | skip)
     by_cases c13 : 0 ≤ x8_1
     ·rw [if_pos c13] at H
      have c13b0 : decide (0 ≤ x8_1) = true := decide_eq_true c13
      clear c13
      by_cases c14 : x8_1 < (x7_1.length : Int)
      ·rw [if_pos c14] at H
       have c14b0 : decide (x8_1 < (x7_1.length : Int)) = true := decide_eq_true c14
       clear c14
       replace H := Option.bind_eq_some_iff.mp H
       obtain ⟨t247, A150, H⟩ := H
       replace H : (spec_l8Burn.j1 k1 l2 x7_1 x8_1 (decide ((t247.length : Int) > 0)) a0_0 l0_1) = some r := H
       have A15 := Aside0.mk A150
       clear A150
       have H' := Aside0.mk H
       clear H
       try go_wp2
       have n0_ := Aside0.mk (Kd.N_drew HO_7.out)
       have n1_ := Aside0.mk (blk_drew BK239.out)
       have n2_ := Aside0.mk (below_drew1 HB.out)
       clear HO_7
       clear BK239
       clear HB
       have HO_7 := n0_
       have BK239 := n1_
       have HB := n2_
       clear n0_ n1_ n2_
       obtain ⟨Ao17, co17, eo17⟩ := Kd.N_slice HO_7.out
       (first | subst eo17 | (injection eo17 with f1_ f2_ f3_;have f4_ := f1_.symm;have f5_ := f3_.symm;clear f1_ f2_ f3_;subst f4_;subst f5_))
       have p246 : 0 ≤ (x8_1 : Int) := oA
       have q246 : x8_1 < (x7_1.length : Int) := oA
       obtain ⟨ad246, A246_0, c246_0, A246_1, c246_1, e246, hx246_0, hx246_1, hl246_0, hi246_0, hl246_1, hi246_1⟩ := at_T71 (Kd.N_reads' HO_7.out).2.2 x8_1 p246 q246
       cases e246
       obtain ⟨ce246, hce246, hMe246, hcc246⟩ := Kd.N_get HO_7.out z71 x8_1 p246 (by first | exact q246 | exact oA | (have e_ := (Kd.N_reads' HO_7.out).1;omega))
       obtain ⟨ua246_0, uc246_0, ua246_1, uc246_1, rfl, ul246_0, ge246_0, ul246_1, ge246_1⟩ := k71_openF hMe246
       have hv246_0 := hcc246 0 _ rfl
       rw [Nat.add_zero] at hv246_0
       replace hv246_0 := Option.some.inj (hv246_0.symm.trans hx246_0)
       injection hv246_0 with hva_ hvn_ hvc_
       rw [hva_] at ge246_0
       rw [hvc_] at ul246_0
       have HL246_0 := Aside0.mk (show Kd.V (Kd.int .i64) 3 _ w.heap.size _ _ ((rd_T71 x7_1 x8_1).f0) from Kd.V_mk ul246_0 ge246_0)
       clear hva_ hvn_ hvc_ ge246_0 ul246_0
       have hv246_1 := hcc246 1 _ rfl
       rw [add_field _ _ 1 (by omega)] at hv246_1
       replace hv246_1 := Option.some.inj (hv246_1.symm.trans hx246_1)
       injection hv246_1 with hva_ hvn_ hvc_
       rw [hva_] at ge246_1
       rw [hvc_] at ul246_1
       have HL246_1 := Aside0.mk (show Kd.V (Kd.int .i64) 3 _ w.heap.size _ _ ((rd_T71 x7_1 x8_1).f1) from Kd.V_mk ul246_1 ge246_1)
       clear hva_ hvn_ hvc_ ge246_1 ul246_1
       clear hcc246 hce246
       have HR246_0 := Aside0.mk hi246_0
       have HC246_0 := Aside0.mk hl246_0
       clear hi246_0 hl246_0
       have HR246_1 := Aside0.mk hi246_1
       have HC246_1 := Aside0.mk hl246_1
       clear hi246_1 hl246_1
       replace p246 := eq_true p246
       replace q246 := eq_true q246
       refine start_ (n := 14) (S := fun w' => w'.cell? ⟨gb239, 0, none⟩ = some (.int .i64 a0_0) ∧ w'.cell? ⟨gb239, 1, none⟩ = some (.slice A0_1 l0_1.length c0_1) ∧ w'.cell? (ad246.add ((x8_1).toNat * 2)) = some (.slice A246_0 ((rd_T71 x7_1 x8_1).f0).length c246_0) ∧ w'.cell? ⟨(ad246.add ((x8_1).toNat * 2)).block, (ad246.add ((x8_1).toNat * 2)).off + 1, none⟩ = some (.slice A246_1 ((rd_T71 x7_1 x8_1).f1).length c246_1)) (ds := []) #[false,false,false,false,false,false,false,false,false,false,false,false,false,false] (by kernel_rfl) rfl rfl ⟨(blk_cell BK239.out 0).trans rfl, (blk_cell BK239.out 1).trans rfl, hx246_0, hx246_1⟩ (fun hHeld => ?_);refine with_tabW spec_l8Burn.tab3 spec_l8Burn.bits3 (fun HT_ HW_ => ?_)
       generalize wr.drew = w16 at HO_7 BK239 HB HL246_0 HL246_1 HR246_0 HR246_1 hx246_0 hx246_1 hHeld ⊢
       refine pure_ (i := 0) (N := some 14) (v := ?_) (a' := ?_) #[true,false,false,false,false,false,false,false,false,false,false,false,false,false] rfl rfl (any_of HT_.out (by kernel_rfl)) (fun _ _ _ h => h) (Or.inl ⟨by rfl, ?_⟩) ?_ ?_
       rotate_left
       ·intro w'
        go_simp
        with_reducible rfl
       rotate_left
       ·simp only [Act.put, List.setIfInBounds_toArray, List.set_cons_zero, List.set_cons_succ, i64_w, i32_w]
        rfl
       refine pure_ (i := 1) (N := some 15) (v := ?_) (a' := ?_) #[true,true,false,false,false,false,false,false,false,false,false,false,false,false] rfl rfl (any_of HT_.out (by kernel_rfl)) (fun _ _ _ h => h) (Or.inl ⟨by rfl, ?_⟩) ?_ ?_
       rotate_left
       ·intro w'
        go_simp
        with_reducible rfl
       rotate_left
       ·simp only [Act.put, List.setIfInBounds_toArray, List.set_cons_zero, List.set_cons_succ, i64_w, i32_w]
        rfl
       refine pure_ (i := 2) (N := some 16) (v := ?_) (a' := ?_) #[true,true,true,false,false,false,false,false,false,false,false,false,false,false] rfl rfl (any_of HT_.out (by kernel_rfl)) (fun _ _ _ h => h) (Or.inl ⟨by rfl, ?_⟩) ?_ ?_
       rotate_left
       ·intro w'
        go_simp
        with_reducible rfl
       rotate_left
       ·simp only [Act.put, List.setIfInBounds_toArray, List.set_cons_zero, List.set_cons_succ, i64_w, i32_w]
        rfl
       refine pure_ (i := 3) (N := some 17) (v := ?_) (a' := ?_) #[true,true,true,true,false,false,false,false,false,false,false,false,false,false] rfl rfl (any_of HT_.out (by kernel_rfl)) (fun _ _ _ h => h) (Or.inl ⟨by rfl, ?_⟩) ?_ ?_
       rotate_left
       ·intro w'
        go_simp
        with_reducible rfl
       rotate_left
       ·simp only [Act.put, List.setIfInBounds_toArray, List.set_cons_zero, List.set_cons_succ, i64_w, i32_w]
        rfl
       refine pure_ (i := 4) (N := some 18) (v := ?_) (a' := ?_) #[true,true,true,true,true,false,false,false,false,false,false,false,false,false] rfl rfl (any_of HT_.out (by kernel_rfl)) (fun _ _ _ h => h) (Or.inl ⟨by rfl, ?_⟩) ?_ ?_
       rotate_left
       ·intro w'
        go_simp
        with_reducible rfl
       rotate_left
       ·simp only [Act.put, List.setIfInBounds_toArray, List.set_cons_zero, List.set_cons_succ, i64_w, i32_w]
        rfl
       refine pure_ (i := 6) (N := some 20) (v := ?_) (a' := ?_) #[true,true,true,true,true,false,true,false,false,false,false,false,false,false] rfl rfl (any_of HT_.out (by kernel_rfl)) (fun _ _ _ h => h) (Or.inl ⟨by rfl, ?_⟩) ?_ ?_
       rotate_left
       ·intro w'
        go_simp
        with_reducible rfl
       rotate_left
       ·simp only [Act.put, List.setIfInBounds_toArray, List.set_cons_zero, List.set_cons_succ, i64_w, i32_w]
        rfl
       refine pure_ (i := 7) (N := some 21) (v := ?_) (a' := ?_) #[true,true,true,true,true,false,true,true,false,false,false,false,false,false] rfl rfl (any_of HT_.out (by kernel_rfl)) (fun _ _ _ h => h) (Or.inl ⟨by rfl, ?_⟩) ?_ ?_
       rotate_left
       ·intro w'
        go_simp
        with_reducible rfl
       rotate_left
       ·simp only [Act.put, List.setIfInBounds_toArray, List.set_cons_zero, List.set_cons_succ, i64_w, i32_w]
        rfl
       refine pure_ (i := 8) (N := some 22) (v := ?_) (a' := ?_) #[true,true,true,true,true,false,true,true,true,false,false,false,false,false] rfl rfl (any_of HT_.out (by kernel_rfl)) (fun _ _ _ h => h) (Or.inl ⟨by rfl, ?_⟩) ?_ ?_
       rotate_left
       ·intro w'
        go_simp
        with_reducible rfl
       rotate_left
       ·simp only [Act.put, List.setIfInBounds_toArray, List.set_cons_zero, List.set_cons_succ, i64_w, i32_w]
        rfl
       refine take_ (i := 5) (N := some 19) (v := ?_) (a' := ?_) #[true,true,true,true,true,true,true,true,true,false,false,false,false,false] rfl rfl (take_ofW HT_.out HW_.out (by kernel_rfl)) (fun _ _ _ h => h) (Or.inl ⟨by rfl, ?_⟩) hHeld ?_ ?_
       rotate_left
       ·rintro w' ⟨s0, s1, s2, s3⟩
        go_simp
        with_reducible rfl
       rotate_left
       ·simp only [Act.put, List.setIfInBounds_toArray, List.set_cons_zero, List.set_cons_succ, i64_w, i32_w]
        rfl
       refine take_ (i := 9) (N := some 23) (v := ?_) (a' := ?_) #[true,true,true,true,true,true,true,true,true,true,false,false,false,false] rfl rfl (take_ofW HT_.out HW_.out (by kernel_rfl)) (fun _ _ _ h => h) (Or.inl ⟨by rfl, ?_⟩) hHeld ?_ ?_
       rotate_left
       ·rintro w' ⟨s0, s1, s2, s3⟩
        go_simp
        with_reducible rfl
       rotate_left
       ·simp only [Act.put, List.setIfInBounds_toArray, List.set_cons_zero, List.set_cons_succ, i64_w, i32_w]
        rfl
       refine one_ (i := 10) (N := some 24) #[true,true,true,true,true,true,true,true,true,true,true,false,false,false] rfl rfl (one_of HT_.out (by kernel_rfl)) (by decide) (fun K hK => ?_)
       refine goes_ Try.func119 (by kernel_rfl) rfl #[.agg #[.int .i64 a0_0, .slice A0_1 l0_1.length c0_1], .agg #[.slice A246_0 ((rd_T71 x7_1 x8_1).f0).length c246_0, .slice A246_1 ((rd_T71 x7_1 x8_1).f1).length c246_1]] (by rfl) rfl rfl mM ?_
       with_reducible refine (spec_l8Next.calls k1 a0_0 _ _ l0_1 _ _ ((rd_T71 x7_1 x8_1).f0) _ _ ((rd_T71 x7_1 x8_1).f1) t247 _ ?side1 ?side2 ?side3 ?side4 ?side5 ?side6 A15.out).mono ?_
       (case side1 => exact cP (Kd.C_below HR0_1.out HB.out))
       (case side2 => exact HC0_1.out)
       (case side3 => exact cP (by repeat (first | (with_reducible exact HR246_0.out) | (with_reducible refine Kd.C_alloc ?_ _) | (with_reducible refine Kd.C_drewN ?_ _) | (with_reducible refine Kd.C_drew ?_) | exact HR246_0.out)))
       (case side4 => exact HC246_0.out)
       (case side5 => exact cP (by repeat (first | (with_reducible exact HR246_1.out) | (with_reducible refine Kd.C_alloc ?_ _) | (with_reducible refine Kd.C_drewN ?_ _) | (with_reducible refine Kd.C_drew ?_) | exact HR246_1.out)))
       (case side6 => exact HC246_1.out)
       rintro e w18 ⟨v248, rfl, ho0, hb⟩
       have HS2_ := (hb.cell (World.block_lt_of_cell? _ _ (hHeld.2.2.1))).trans (hHeld.2.2.1)
       have HS3_ := (hb.cell (World.block_lt_of_cell? _ _ (hHeld.2.2.2))).trans (hHeld.2.2.2)
       refine ⟨_, rfl, ?_⟩
       have n0_ := Aside0.mk (Kd.N_elder' (by (with_reducible repeat (first | apply Kd.N_alloc | apply Kd.N_drewN | apply Kd.N_drew));exact HO_7.out) (Kd.R_base ho0) hb)
       have n1_ := Aside0.mk (Kd.V_elder' (by (with_reducible repeat (first | apply Kd.V_alloc | apply Kd.V_drewN | apply Kd.V_drew));exact HL246_0.out) (Kd.R_base ho0) hb)
       have n2_ := Aside0.mk (Kd.V_elder' (by (with_reducible repeat (first | apply Kd.V_alloc | apply Kd.V_drewN | apply Kd.V_drew));exact HL246_1.out) (Kd.R_base ho0) hb)
       have n3_ := Aside0.mk (Kd.R_lower (Kd.R_newM (M := fun k_ => (w.heap.size ≤ k_)) ho0 (below_size (by exact bB)) (fun k_ h_ => h_)) (below_size (by exact bB)))
       have n4_ := Aside0.mk (blk_below (g := gb239) (o := .cells #[.int .i64 a0_0, .slice A0_1 l0_1.length c0_1] 31 (0, 0)) (by exact kP BK239.out) hb)
       have n5_ := Aside0.mk (Kd.C_below (by repeat (first | (with_reducible exact HR246_0.out) | (with_reducible refine Kd.C_alloc ?_ _) | (with_reducible refine Kd.C_drewN ?_ _) | (with_reducible refine Kd.C_drew ?_) | exact HR246_0.out)) hb)
       have n6_ := Aside0.mk (Kd.C_below (by repeat (first | (with_reducible exact HR246_1.out) | (with_reducible refine Kd.C_alloc ?_ _) | (with_reducible refine Kd.C_drewN ?_ _) | (with_reducible refine Kd.C_drew ?_) | exact HR246_1.out)) hb)
       have n7_ := Aside0.mk (below_step (by exact bB) hb)
       clear HO_7
       clear HL246_0
       clear HL246_1
       clear BK239
       clear HR246_0
       clear HR246_1
       clear HB
       have HO_7 := n0_
       have HL246_0 := n1_
       have HL246_1 := n2_
       have HO249 := n3_
       have BK239 := n4_
       have HR246_0 := n5_
       have HR246_1 := n6_
       have HB := n7_
       clear n0_ n1_ n2_ n3_ n4_ n5_ n6_ n7_
       (try clear hb)
       (try clear hb2)
       (try clear hk)
       (try clear hi)
       (try clear ho0)
       obtain ⟨Ao19, co19, eo19⟩ := Kd.R_slice HO249.out
       (first | subst eo19 | (injection eo19 with f1_ f2_ f3_;have f4_ := f1_.symm;have f5_ := f3_.symm;clear f1_ f2_ f3_;subst f4_;subst f5_))
       refine hK.out _ _ ⟨(blk_cell BK239.out 0).trans rfl, (blk_cell BK239.out 1).trans rfl, HS2_, HS3_⟩ (fun hHeld => ?_)
       clear hK K
       refine norm_ (a' := ?_) ?_ ?_
       rotate_left
       ·show Act.put _ (some 24) _ = _
        simp only [Act.put, List.setIfInBounds_toArray, List.set_cons_zero, List.set_cons_succ, i64_w, i32_w]
        rfl
       refine pure_ (i := 11) (N := some 25) (v := ?_) (a' := ?_) #[true,true,true,true,true,true,true,true,true,true,true,true,false,false] rfl rfl (any_of HT_.out (by kernel_rfl)) (fun _ _ _ h => h) (Or.inl ⟨by rfl, ?_⟩) ?_ ?_
       rotate_left
       ·intro w'
        go_simp
        with_reducible rfl
       rotate_left
       ·simp only [Act.put, List.setIfInBounds_toArray, List.set_cons_zero, List.set_cons_succ, i64_w, i32_w]
        rfl
       refine pure_ (i := 12) (N := some 26) (v := ?_) (a' := ?_) #[true,true,true,true,true,true,true,true,true,true,true,true,true,false] rfl rfl (any_of HT_.out (by kernel_rfl)) (fun _ _ _ h => h) (Or.inl ⟨by rfl, ?_⟩) ?_ ?_
       rotate_left
       ·intro w'
        go_simp
        with_reducible rfl
       rotate_left
       ·simp only [Act.put, List.setIfInBounds_toArray, List.set_cons_zero, List.set_cons_succ, i64_w, i32_w]
        rfl
       refine pure_ (i := 13) (N := some 27) (v := ?_) (a' := ?_) #[true,true,true,true,true,true,true,true,true,true,true,true,true,true] rfl rfl (any_of HT_.out (by kernel_rfl)) (fun _ _ _ h => h) (Or.inl ⟨by rfl, ?_⟩) ?_ ?_
       rotate_left
       ·intro w'
        go_simp
        with_reducible rfl
       rotate_left
       ·simp only [Act.put, List.setIfInBounds_toArray, List.set_cons_zero, List.set_cons_succ, i64_w, i32_w]
        rfl
       refine done_ (done_of HT_.out (by kernel_rfl)) ?_
       try go_wp2
       go_meet
       case rel => exact ⟨_, (decide ((t247.length : Int) > 0)), (by first | rfl | (simp;done) | (simp [*];done)), H', ⟨by have := HK1.out;first | omega | exact Nat.le_refl _⟩, ⟨by (with_reducible repeat (first | apply Kd.N_alloc | apply Kd.N_drewN | apply Kd.N_drew));exact Kd.N_mono HO_7.out (fun _ hk => ⟨hk.1.1, hk.1.2⟩)⟩, ⟨by exact kP BK239.out⟩, ⟨by exact bB⟩⟩
      ·rw [if_neg c14] at H
       exact absurd H (by simp)
     ·rw [if_neg c13] at H
      exact absurd H (by simp)
   case rest =>
    clear HC10
    try clear c1
    try clear c2
    try clear p2
    try clear q2
    try clear hx2
    try clear c6
    try clear c11
    try clear c11b0
    try clear c13
    try clear c13b0
    try clear c14
    try clear c14b0
    try clear hx246_0
    try clear hx246_1
    try clear p2
    try clear p246
    try clear q246
    obtain ⟨kq, x27_9, rfl, HA, HJ9, HO_7, BK239, HB⟩ := hcut
    cases kq with
    | zero => exact absurd HA.out (by simp [spec_l8Burn.j1])
    | succ kj9 =>
     have H := HA.out
     clear HA
     simp only [spec_l8Burn.j1] at H
     by_cases c20 : x27_9 = true
     ·subst c20
      have H1 : (if x8_1 < (l2.length : Int) then (if 0 ≤ x8_1 then (if x8_1 < (x7_1.length : Int) then ((spec_l8Round.f kj9 a0_0 l0_1 ((rd_T71 x7_1 x8_1).f0) ((rd_T71 x7_1 x8_1).f1) (rd_L2 l2 x8_1)).bind fun bt255 => (if x7_1.length < 2932031007402 then (spec_l8Burn.l0 kj9 l2 (x7_1 ++ [(⟨bt255.1, bt255.2⟩ : S71)]) (wrap64 (x8_1 + 1)) a0_0 l0_1) else (none))) else (none)) else (none)) else (if 0 ≤ x8_1 then (if x8_1 < (x7_1.length : Int) then ((spec_l8Round.f kj9 a0_0 l0_1 ((rd_T71 x7_1 x8_1).f0) ((rd_T71 x7_1 x8_1).f1) (([] : List Int))).bind fun bt265 => (if x7_1.length < 2932031007402 then (spec_l8Burn.l0 kj9 l2 (x7_1 ++ [(⟨bt265.1, bt265.2⟩ : S71)]) (wrap64 (x8_1 + 1)) a0_0 l0_1) else (none))) else (none)) else (none))) = some r := by rw [if_pos rfl] at H;exact H
      clear H
      have H := H1
      clear H1
      obtain ⟨y250, hy250⟩ : ∃ y_ : List Int, y_ = (([] : List Int)) := ⟨_, rfl⟩
      replace H : (if x8_1 < (l2.length : Int) then (if 0 ≤ x8_1 then (if x8_1 < (x7_1.length : Int) then ((spec_l8Round.f kj9 a0_0 l0_1 ((rd_T71 x7_1 x8_1).f0) ((rd_T71 x7_1 x8_1).f1) (rd_L2 l2 x8_1)).bind fun bt255 => (if x7_1.length < 2932031007402 then (spec_l8Burn.l0 kj9 l2 (x7_1 ++ [(⟨bt255.1, bt255.2⟩ : S71)]) (wrap64 (x8_1 + 1)) a0_0 l0_1) else (none))) else (none)) else (none)) else (if 0 ≤ x8_1 then (if x8_1 < (x7_1.length : Int) then ((spec_l8Round.f kj9 a0_0 l0_1 ((rd_T71 x7_1 x8_1).f0) ((rd_T71 x7_1 x8_1).f1) y250).bind fun bt265 => (if x7_1.length < 2932031007402 then (spec_l8Burn.l0 kj9 l2 (x7_1 ++ [(⟨bt265.1, bt265.2⟩ : S71)]) (wrap64 (x8_1 + 1)) a0_0 l0_1) else (none))) else (none)) else (none))) = some r := by first | (rw [hy250];with_reducible exact H) | (have H2_ := (Option.bind_some _ _).symm.trans H;rw [hy250];with_reducible exact H2_) | (have H2_ := (Option.bind_some _ _).symm.trans H;with_reducible exact H2_) | with_reducible exact H | (rw [hy250];exact H) | exact H
      have Ny250 := Aside0.mk hy250
      clear hy250
      by_cases c21 : x8_1 < (l2.length : Int)
      ·rw [if_pos c21] at H
       have c21b0 : decide (x8_1 < (l2.length : Int)) = true := decide_eq_true c21
       clear c21
       by_cases c22 : 0 ≤ x8_1
       ·rw [if_pos c22] at H
        have c22b0 : decide (0 ≤ x8_1) = true := decide_eq_true c22
        clear c22
        by_cases c23 : x8_1 < (x7_1.length : Int)
        ·rw [if_pos c23] at H
         have c23b0 : decide (x8_1 < (x7_1.length : Int)) = true := decide_eq_true c23
         clear c23
         replace H := Option.bind_eq_some_iff.mp H
         obtain ⟨⟨t255, t258⟩, A240, H⟩ := H
         replace H : (if x7_1.length < 2932031007402 then (spec_l8Burn.l0 kj9 l2 (x7_1 ++ [(⟨t255, t258⟩ : S71)]) (wrap64 (x8_1 + 1)) a0_0 l0_1) else (none)) = some r := H
         have A24 := Aside0.mk A240
         clear A240
         by_cases c25 : x7_1.length < 2932031007402
         ·rw [if_pos c25] at H
          have LMc25 := Aside0.mk c25
          clear c25
          obtain ⟨y261, hy261⟩ : ∃ y_ : List (S71), y_ = (x7_1 ++ [(⟨t255, t258⟩ : S71)]) := ⟨_, rfl⟩
          replace H : (spec_l8Burn.l0 kj9 l2 y261 (wrap64 (x8_1 + 1)) a0_0 l0_1) = some r := by first | (rw [hy261];with_reducible exact H) | (have H2_ := (Option.bind_some _ _).symm.trans H;rw [hy261];with_reducible exact H2_) | (have H2_ := (Option.bind_some _ _).symm.trans H;with_reducible exact H2_) | with_reducible exact H | (rw [hy261];exact H) | exact H
          have Ny261 := Aside0.mk hy261
          clear hy261
          have H' := Aside0.mk H
          clear H
          try go_wp2_with (first | ((with_reducible refine gate_dst (N := 30) rfl ?_);(try (refine gate_guard (by rfl) ?_;dsimp only));refine Kd.R_lit (Kd.int .i64) _ 3 ?hg (N := 30) ?hd (xs := ([] : List Int)) (inner := []) (ok := fun _ => True) (okp := fun _ => True) ?hr ?hp (fun _ hk => hk) trivial (Below.refl _ _) (Nat.le_refl _) (by simp) ?_;(case hd => rfl);(case hg => rfl);(case hr => first | (go_simp;done) | (go_simp;rfl));(case hp => exact (Reps.none _ _));intro v251 w26 ho27 hb hg_ hnew_;clear hg_ hnew_;(first | rw [← Ny250.out] at ho27 | (simp only [Int.reduceToNat] at ho27;rw [← Ny250.out] at ho27));have n0_ := Aside0.mk (Kd.N_elder' (by (with_reducible repeat (first | apply Kd.N_alloc | apply Kd.N_drewN | apply Kd.N_drew));exact HO_7.out) (Kd.R_base ho27) hb);have n1_ := Aside0.mk (Kd.R_lower (Kd.R_newM (M := fun k_ => (w.heap.size ≤ k_)) ho27 (below_size (by exact bB)) (fun k_ h_ => h_)) (below_size (by exact bB)));have n2_ := Aside0.mk (blk_below (g := gb239) (o := .cells #[.int .i64 a0_0, .slice A0_1 l0_1.length c0_1] 31 (0, 0)) (by exact kP BK239.out) hb);have n3_ := Aside0.mk (below_step (by exact bB) hb);clear HO_7;clear BK239;clear HB;have HO_7 := n0_;have HO252 := n1_;have BK239 := n2_;have HB := n3_;clear n0_ n1_ n2_ n3_;clear hb ho27;have p253 : 0 ≤ (x8_1 : Int) := oA;have q253 : x8_1 < (l2.length : Int) := oA;obtain ⟨ad253, A253_0, c253_0, e253, hx253_0, hl253_0, hi253_0⟩ := at_L2 HR2.out x8_1 p253 q253;cases e253;replace hx253_0 := (HB.out.cell (World.block_lt_of_cell? w _ hx253_0)).trans hx253_0;have HR253_0 := Aside0.mk hi253_0;have HC253_0 := Aside0.mk hl253_0;clear hi253_0 hl253_0;replace p253 := eq_true p253;replace q253 := eq_true q253))
          have n0_ := Aside0.mk (Kd.N_drew HO_7.out)
          have n1_ := Aside0.mk (Kd.R_drew HO252.out)
          have n2_ := Aside0.mk (blk_drew BK239.out)
          have n3_ := Aside0.mk (below_drew1 HB.out)
          clear HO_7
          clear HO252
          clear BK239
          clear HB
          have HO_7 := n0_
          have HO252 := n1_
          have BK239 := n2_
          have HB := n3_
          clear n0_ n1_ n2_ n3_
          obtain ⟨Ao29, co29, eo29⟩ := Kd.N_slice HO_7.out
          (first | subst eo29 | (injection eo29 with f1_ f2_ f3_;have f4_ := f1_.symm;have f5_ := f3_.symm;clear f1_ f2_ f3_;subst f4_;subst f5_))
          have p254 : 0 ≤ (x8_1 : Int) := oA
          have q254 : x8_1 < (x7_1.length : Int) := oA
          obtain ⟨ad254, A254_0, c254_0, A254_1, c254_1, e254, hx254_0, hx254_1, hl254_0, hi254_0, hl254_1, hi254_1⟩ := at_T71 (Kd.N_reads' HO_7.out).2.2 x8_1 p254 q254
          cases e254
          obtain ⟨ce254, hce254, hMe254, hcc254⟩ := Kd.N_get HO_7.out z71 x8_1 p254 (by first | exact q254 | exact oA | (have e_ := (Kd.N_reads' HO_7.out).1;omega))
          obtain ⟨ua254_0, uc254_0, ua254_1, uc254_1, rfl, ul254_0, ge254_0, ul254_1, ge254_1⟩ := k71_openF hMe254
          have hv254_0 := hcc254 0 _ rfl
          rw [Nat.add_zero] at hv254_0
          replace hv254_0 := Option.some.inj (hv254_0.symm.trans hx254_0)
          injection hv254_0 with hva_ hvn_ hvc_
          rw [hva_] at ge254_0
          rw [hvc_] at ul254_0
          have HL254_0 := Aside0.mk (show Kd.V (Kd.int .i64) 3 _ w.heap.size _ _ ((rd_T71 x7_1 x8_1).f0) from Kd.V_mk ul254_0 ge254_0)
          clear hva_ hvn_ hvc_ ge254_0 ul254_0
          have hv254_1 := hcc254 1 _ rfl
          rw [add_field _ _ 1 (by omega)] at hv254_1
          replace hv254_1 := Option.some.inj (hv254_1.symm.trans hx254_1)
          injection hv254_1 with hva_ hvn_ hvc_
          rw [hva_] at ge254_1
          rw [hvc_] at ul254_1
          have HL254_1 := Aside0.mk (show Kd.V (Kd.int .i64) 3 _ w.heap.size _ _ ((rd_T71 x7_1 x8_1).f1) from Kd.V_mk ul254_1 ge254_1)
          clear hva_ hvn_ hvc_ ge254_1 ul254_1
          clear hcc254 hce254
          have HR254_0 := Aside0.mk hi254_0
          have HC254_0 := Aside0.mk hl254_0
          clear hi254_0 hl254_0
          have HR254_1 := Aside0.mk hi254_1
          have HC254_1 := Aside0.mk hl254_1
          clear hi254_1 hl254_1
          replace p254 := eq_true p254
          replace q254 := eq_true q254
          refine start_ (n := 11) (S := fun w' => w'.cell? ⟨gb239, 0, none⟩ = some (.int .i64 a0_0) ∧ w'.cell? ⟨gb239, 1, none⟩ = some (.slice A0_1 l0_1.length c0_1) ∧ w'.cell? (ad254.add ((x8_1).toNat * 2)) = some (.slice A254_0 ((rd_T71 x7_1 x8_1).f0).length c254_0) ∧ w'.cell? ⟨(ad254.add ((x8_1).toNat * 2)).block, (ad254.add ((x8_1).toNat * 2)).off + 1, none⟩ = some (.slice A254_1 ((rd_T71 x7_1 x8_1).f1).length c254_1)) (ds := [8, 9]) #[false,false,false,false,false,false,false,false,false,false,false] (by kernel_rfl) rfl rfl ⟨(blk_cell BK239.out 0).trans rfl, (blk_cell BK239.out 1).trans rfl, hx254_0, hx254_1⟩ (fun hHeld => ?_);refine with_tabW spec_l8Burn.tab8 spec_l8Burn.bits8 (fun HT_ HW_ => ?_)
          generalize w26.drew = w28 at HO_7 HO252 BK239 HB HL254_0 HL254_1 HR254_0 HR254_1 hx254_0 hx254_1 hHeld ⊢
          refine pure_ (i := 0) (N := some 39) (v := ?_) (a' := ?_) #[true,false,false,false,false,false,false,false,false,false,false] rfl rfl (any_of HT_.out (by kernel_rfl)) (fun _ _ _ h => h) (Or.inl ⟨by rfl, ?_⟩) ?_ ?_
          rotate_left
          ·intro w'
           go_simp
           with_reducible rfl
          rotate_left
          ·simp only [Act.put, List.setIfInBounds_toArray, List.set_cons_zero, List.set_cons_succ, i64_w, i32_w]
           rfl
          refine pure_ (i := 2) (N := some 41) (v := ?_) (a' := ?_) #[true,false,true,false,false,false,false,false,false,false,false] rfl rfl (any_of HT_.out (by kernel_rfl)) (fun _ _ _ h => h) (Or.inl ⟨by rfl, ?_⟩) ?_ ?_
          rotate_left
          ·intro w'
           go_simp
           with_reducible rfl
          rotate_left
          ·simp only [Act.put, List.setIfInBounds_toArray, List.set_cons_zero, List.set_cons_succ, i64_w, i32_w]
           rfl
          refine pure_ (i := 3) (N := some 42) (v := ?_) (a' := ?_) #[true,false,true,true,false,false,false,false,false,false,false] rfl rfl (any_of HT_.out (by kernel_rfl)) (fun _ _ _ h => h) (Or.inl ⟨by rfl, ?_⟩) ?_ ?_
          rotate_left
          ·intro w'
           go_simp
           with_reducible rfl
          rotate_left
          ·simp only [Act.put, List.setIfInBounds_toArray, List.set_cons_zero, List.set_cons_succ, i64_w, i32_w]
           rfl
          refine pure_ (i := 4) (N := some 43) (v := ?_) (a' := ?_) #[true,false,true,true,true,false,false,false,false,false,false] rfl rfl (any_of HT_.out (by kernel_rfl)) (fun _ _ _ h => h) (Or.inl ⟨by rfl, ?_⟩) ?_ ?_
          rotate_left
          ·intro w'
           go_simp
           with_reducible rfl
          rotate_left
          ·simp only [Act.put, List.setIfInBounds_toArray, List.set_cons_zero, List.set_cons_succ, i64_w, i32_w]
           rfl
          refine pure_ (i := 6) (N := some 45) (v := ?_) (a' := ?_) #[true,false,true,true,true,false,true,false,false,false,false] rfl rfl (any_of HT_.out (by kernel_rfl)) (fun _ _ _ h => h) (Or.inl ⟨by rfl, ?_⟩) ?_ ?_
          rotate_left
          ·intro w'
           go_simp
           with_reducible rfl
          rotate_left
          ·simp only [Act.put, List.setIfInBounds_toArray, List.set_cons_zero, List.set_cons_succ, i64_w, i32_w]
           rfl
          refine take_ (i := 1) (N := some 40) (v := ?_) (a' := ?_) #[true,true,true,true,true,false,true,false,false,false,false] rfl rfl (take_ofW HT_.out HW_.out (by kernel_rfl)) (fun _ _ _ h => h) (Or.inl ⟨by rfl, ?_⟩) hHeld ?_ ?_
          rotate_left
          ·rintro w' ⟨s0, s1, s2, s3⟩
           go_simp
           with_reducible rfl
          rotate_left
          ·simp only [Act.put, List.setIfInBounds_toArray, List.set_cons_zero, List.set_cons_succ, i64_w, i32_w]
           rfl
          refine take_ (i := 5) (N := some 44) (v := ?_) (a' := ?_) #[true,true,true,true,true,true,true,false,false,false,false] rfl rfl (take_ofW HT_.out HW_.out (by kernel_rfl)) (fun _ _ _ h => h) (Or.inl ⟨by rfl, ?_⟩) hHeld ?_ ?_
          rotate_left
          ·rintro w' ⟨s0, s1, s2, s3⟩
           go_simp
           with_reducible rfl
          rotate_left
          ·simp only [Act.put, List.setIfInBounds_toArray, List.set_cons_zero, List.set_cons_succ, i64_w, i32_w]
           rfl
          refine one_ (i := 7) (N := some 46) #[true,true,true,true,true,true,true,true,false,false,false] rfl rfl (one_of HT_.out (by kernel_rfl)) (by decide) (fun K hK => ?_)
          refine goes_ Try.func118 (by kernel_rfl) rfl #[.agg #[.int .i64 a0_0, .slice A0_1 l0_1.length c0_1], .agg #[.slice A254_0 ((rd_T71 x7_1 x8_1).f0).length c254_0, .slice A254_1 ((rd_T71 x7_1 x8_1).f1).length c254_1], .slice A253_0 (rd_L2 l2 x8_1).length c253_0] (by rfl) rfl rfl mM ?_
          with_reducible refine (spec_l8Round.calls kj9 a0_0 _ _ l0_1 _ _ ((rd_T71 x7_1 x8_1).f0) _ _ ((rd_T71 x7_1 x8_1).f1) _ _ (rd_L2 l2 x8_1) t255 t258 _ ?side1 ?side2 ?side3 ?side4 ?side5 ?side6 ?side7 ?side8 A24.out).mono ?_
          (case side1 => exact cP (Kd.C_below HR0_1.out HB.out))
          (case side2 => exact HC0_1.out)
          (case side3 => exact cP (by repeat (first | (with_reducible exact HR254_0.out) | (with_reducible refine Kd.C_alloc ?_ _) | (with_reducible refine Kd.C_drewN ?_ _) | (with_reducible refine Kd.C_drew ?_) | exact HR254_0.out)))
          (case side4 => exact HC254_0.out)
          (case side5 => exact cP (by repeat (first | (with_reducible exact HR254_1.out) | (with_reducible refine Kd.C_alloc ?_ _) | (with_reducible refine Kd.C_drewN ?_ _) | (with_reducible refine Kd.C_drew ?_) | exact HR254_1.out)))
          (case side6 => exact HC254_1.out)
          (case side7 => exact cP (Kd.C_below HR253_0.out HB.out))
          (case side8 => exact HC253_0.out)
          rintro e w30 ⟨v256, v259, rfl, ho0, ho1, hb⟩
          have HS2_ := (hb.cell (World.block_lt_of_cell? _ _ (hHeld.2.2.1))).trans (hHeld.2.2.1)
          have HS3_ := (hb.cell (World.block_lt_of_cell? _ _ (hHeld.2.2.2))).trans (hHeld.2.2.2)
          refine ⟨_, rfl, ?_⟩
          have n0_ := Aside0.mk (Kd.N_mono (Kd.N_told (Kd.N_told (Kd.N_old (by (with_reducible repeat (first | apply Kd.N_alloc | apply Kd.N_drewN | apply Kd.N_drew));exact HO_7.out) hb) (Kd.R_base ho0)) (Kd.R_base ho1)) (fun _ h_ => h_.1))
          have n1_ := Aside0.mk (Kd.R_mono (Kd.R_told (Kd.R_told (Kd.R_old (by exact rP HO252.out) hb) (Kd.R_base ho0)) (Kd.R_base ho1)) (fun _ h_ => h_.1))
          have n2_ := Aside0.mk (Kd.V_mono (Kd.V_told (Kd.V_told (Kd.V_old (by (with_reducible repeat (first | apply Kd.V_alloc | apply Kd.V_drewN | apply Kd.V_drew));exact HL254_0.out) hb) (Kd.R_base ho0)) (Kd.R_base ho1)) (fun _ h_ => h_.1))
          have n3_ := Aside0.mk (Kd.V_mono (Kd.V_told (Kd.V_told (Kd.V_old (by (with_reducible repeat (first | apply Kd.V_alloc | apply Kd.V_drewN | apply Kd.V_drew));exact HL254_1.out) hb) (Kd.R_base ho0)) (Kd.R_base ho1)) (fun _ h_ => h_.1))
          have n4_ := Aside0.mk (Kd.R_lower (Kd.R_new' (Kd.R_newM (M := fun k_ => (w.heap.size ≤ k_)) ho0 (below_size (by exact bB)) (fun k_ h_ => h_)) (Kd.R_lt (by exact rP HO252.out))) (below_size (by exact bB)))
          have n5_ := Aside0.mk (Kd.R_lower (Kd.R_new' (Kd.R_newM (M := fun k_ => (w.heap.size ≤ k_)) ho1 (below_size (by exact bB)) (fun k_ h_ => h_)) (Kd.R_lt (by exact rP HO252.out))) (below_size (by exact bB)))
          have n6_ := Aside0.mk (blk_below (g := gb239) (o := .cells #[.int .i64 a0_0, .slice A0_1 l0_1.length c0_1] 31 (0, 0)) (by exact kP BK239.out) hb)
          have n7_ := Aside0.mk (Kd.C_below (by repeat (first | (with_reducible exact HR254_0.out) | (with_reducible refine Kd.C_alloc ?_ _) | (with_reducible refine Kd.C_drewN ?_ _) | (with_reducible refine Kd.C_drew ?_) | exact HR254_0.out)) hb)
          have n8_ := Aside0.mk (Kd.C_below (by repeat (first | (with_reducible exact HR254_1.out) | (with_reducible refine Kd.C_alloc ?_ _) | (with_reducible refine Kd.C_drewN ?_ _) | (with_reducible refine Kd.C_drew ?_) | exact HR254_1.out)) hb)
          have n9_ := Aside0.mk (below_step (by exact bB) hb)
          clear HO_7
          clear HO252
          clear HL254_0
          clear HL254_1
          clear BK239
          clear HR254_0
          clear HR254_1
          clear HB
          have HO_7 := n0_
          have HO252 := n1_
          have HL254_0 := n2_
          have HL254_1 := n3_
          have HO257 := n4_
          have HO260 := n5_
          have BK239 := n6_
          have HR254_0 := n7_
          have HR254_1 := n8_
          have HB := n9_
          clear n0_ n1_ n2_ n3_ n4_ n5_ n6_ n7_ n8_ n9_
          (try clear hb)
          (try clear hb2)
          (try clear hk)
          (try clear hi)
          (try clear ho0)
          (try clear ho1)
          obtain ⟨Ao32, co32, eo32⟩ := Kd.R_slice HO257.out
          (first | subst eo32 | (injection eo32 with f1_ f2_ f3_;have f4_ := f1_.symm;have f5_ := f3_.symm;clear f1_ f2_ f3_;subst f4_;subst f5_))
          obtain ⟨Ao33, co33, eo33⟩ := Kd.R_slice HO260.out
          (first | subst eo33 | (injection eo33 with f1_ f2_ f3_;have f4_ := f1_.symm;have f5_ := f3_.symm;clear f1_ f2_ f3_;subst f4_;subst f5_))
          refine hK.out _ _ ⟨(blk_cell BK239.out 0).trans rfl, (blk_cell BK239.out 1).trans rfl, HS2_, HS3_⟩ (fun hHeld => ?_)
          clear hK K
          refine norm_ (a' := ?_) ?_ ?_
          rotate_left
          ·show Act.put _ (some 46) _ = _
           simp only [Act.put, List.setIfInBounds_toArray, List.set_cons_zero, List.set_cons_succ, i64_w, i32_w]
           rfl
          refine last_ (i := 8) (N := some 47) #[true,true,true,true,true,true,true,true,true,false,false] rfl rfl (one_of HT_.out (by kernel_rfl)) (by decide) (fun K hK => ?_)
          refine value_ (w1 := ?_) (v := ?_) (by rfl) rfl ?_ ?_
          rotate_left 2
          ·go_simp
           constructor
           ·rfl
           ·rfl
          refine hK.out _ _ ?_
          clear hK K
          refine norm_ (a' := ?_) ?_ ?_
          rotate_left
          ·show Act.put _ (some 47) _ = _
           simp only [Act.put, List.setIfInBounds_toArray, List.set_cons_zero, List.set_cons_succ, i64_w, i32_w]
           rfl
          refine last_ (i := 9) (N := some 48) #[true,true,true,true,true,true,true,true,true,true,false] rfl rfl (one_of HT_.out (by kernel_rfl)) (by decide) (fun K hK => ?_)
          refine Kd.N_append_step k71 (w0 := w) w.heap.size (by rfl) (.tmp 39) (.tmp 47) 68 71 (.agg #[(.slice none 0 0), (.slice none 0 0)]) 48 rfl Try.underlying68 info71 rfl (by decide) (by omega) (.slice (some ad254) x7_1.length co29) x7_1 (⟨t255, t258⟩ : S71) [.slice Ao32 t255.length co32, .slice Ao33 t258.length co33] (fun k_ => (w.heap.size ≤ k_) ∧ some k_ ≠ (v251 : Value).ownBlock ∧ k_ ≠ gb239) (fun k_ => ((fun k_ => (w.heap.size ≤ k_) ∧ some k_ ≠ (v251 : Value).ownBlock ∧ k_ ≠ gb239)) k_ ∧ some k_ ≠ (.slice (some ad254) x7_1.length co29 : Value).ownBlock) rfl rfl ?aP (fun _ hk => hk) ?aF ?aO ?aB ?aS ?aL ?_
          (case aP => exact (k71_mkF _ _ (⟨t255, t258⟩ : S71) (Kd.R_reads' (Kd.R_mono (ok' := (fun k_ => ((fun k_ => (w.heap.size ≤ k_) ∧ some k_ ≠ (v251 : Value).ownBlock ∧ k_ ≠ gb239)) k_ ∧ some k_ ≠ (.slice (some ad254) x7_1.length co29 : Value).ownBlock)) (Kd.R_types (Kd.R_apart' (HO257.out) (Kd.N_typed HO_7.out) (by decide)) BK239.out (by decide)) (fun k_ hk => ⟨⟨hk.1.1.1.1, ⟨hk.1.1.2, hk.2⟩⟩, hk.1.2⟩))).2.1 (Kd.R_F (Kd.R_mono (ok' := (fun k_ => ((fun k_ => (w.heap.size ≤ k_) ∧ some k_ ≠ (v251 : Value).ownBlock ∧ k_ ≠ gb239)) k_ ∧ some k_ ≠ (.slice (some ad254) x7_1.length co29 : Value).ownBlock)) (Kd.R_types (Kd.R_apart' (HO257.out) (Kd.N_typed HO_7.out) (by decide)) BK239.out (by decide)) (fun k_ hk => ⟨⟨hk.1.1.1.1, ⟨hk.1.1.2, hk.2⟩⟩, hk.1.2⟩))) (Kd.R_reads' (Kd.R_mono (ok' := (fun k_ => ((fun k_ => (w.heap.size ≤ k_) ∧ some k_ ≠ (v251 : Value).ownBlock ∧ k_ ≠ gb239)) k_ ∧ some k_ ≠ (.slice (some ad254) x7_1.length co29 : Value).ownBlock)) (Kd.R_types (Kd.R_apart' (HO260.out) (Kd.N_typed HO_7.out) (by decide)) BK239.out (by decide)) (fun k_ hk => ⟨⟨hk.1.1.1.1, ⟨hk.1.1.2, hk.2⟩⟩, hk.1.2⟩))).2.1 (Kd.R_F (Kd.R_mono (ok' := (fun k_ => ((fun k_ => (w.heap.size ≤ k_) ∧ some k_ ≠ (v251 : Value).ownBlock ∧ k_ ≠ gb239)) k_ ∧ some k_ ≠ (.slice (some ad254) x7_1.length co29 : Value).ownBlock)) (Kd.R_types (Kd.R_apart' (HO260.out) (Kd.N_typed HO_7.out) (by decide)) BK239.out (by decide)) (fun k_ hk => ⟨⟨hk.1.1.1.1, ⟨hk.1.1.2, hk.2⟩⟩, hk.1.2⟩)))))
          (case aB => exact (by exact bB))
          (case aF => exact (fun k_ hk => ⟨(Nat.le_trans (below_size (by exact bB)) hk), Kd.fresh' (Kd.R_lt (by exact rP HO252.out)) k_ hk, Kd.freshB (g := gb239) (o := .cells #[.int .i64 a0_0, .slice A0_1 l0_1.length c0_1] 31 (0, 0)) (by exact kP BK239.out) k_ hk⟩))
          (case aO => exact (by (with_reducible repeat (first | apply Kd.N_alloc | apply Kd.N_drewN | apply Kd.N_drew));exact Kd.N_mono HO_7.out (fun _ hk => ⟨hk.1.1.1.1, ⟨hk.1.1.2, hk.1.1.1.2⟩⟩)))
          (case aS => exact (below_size (by exact bB)))
          (case aL => have := LMc25.out;omega)
          intro v262 w31 ho hb hg hat
          rw [← Ny261.out] at ho
          have n0_ := Aside0.mk (blk_grown (g := gb239) (o := .cells #[.int .i64 a0_0, .slice A0_1 l0_1.length c0_1] 31 (0, 0)) (by exact kP BK239.out) hg (Kd.N_ne HO_7.out BK239.out (by decide)))
          have n1_ := Aside0.mk (Kd.R_over' (by exact rP HO252.out) (Kd.N_typed (by (with_reducible repeat (first | apply Kd.N_alloc | apply Kd.N_drewN | apply Kd.N_drew));exact HO_7.out)) (by decide) hg)
          have n2_ := Aside0.mk (Kd.V_afterv (ok := (fun k_ => (w.heap.size ≤ k_) ∧ some k_ ≠ (v251 : Value).ownBlock ∧ some k_ ≠ (.slice Ao32 t255.length co32 : Value).ownBlock ∧ some k_ ≠ (.slice Ao33 t258.length co33 : Value).ownBlock ∧ k_ ≠ gb239)) (by (with_reducible repeat (first | apply Kd.V_alloc | apply Kd.V_drewN | apply Kd.V_drew));exact Kd.V_mono HL254_0.out (fun _ hk => ⟨⟨hk.1.1.1.1.1, ⟨hk.1.1.1.2, ⟨hk.1.2, ⟨hk.2, hk.1.1.1.1.2⟩⟩⟩⟩, hk.1.1.2⟩)) hg hat)
          have n3_ := Aside0.mk (Kd.V_afterv (ok := (fun k_ => (w.heap.size ≤ k_) ∧ some k_ ≠ (v251 : Value).ownBlock ∧ some k_ ≠ (.slice Ao32 t255.length co32 : Value).ownBlock ∧ some k_ ≠ (.slice Ao33 t258.length co33 : Value).ownBlock ∧ k_ ≠ gb239)) (by (with_reducible repeat (first | apply Kd.V_alloc | apply Kd.V_drewN | apply Kd.V_drew));exact Kd.V_mono HL254_1.out (fun _ hk => ⟨⟨hk.1.1.1.1.1, ⟨hk.1.1.1.2, ⟨hk.1.2, ⟨hk.2, hk.1.1.1.1.2⟩⟩⟩⟩, hk.1.1.2⟩)) hg hat)
          have n4_ := Aside0.mk (hb)
          have n5_ := Aside0.mk (ho)
          clear BK239
          clear HO252
          clear HL254_0
          clear HL254_1
          clear HB
          clear HO_7
          clear HO257
          clear HO260
          have BK239 := n0_
          have HO252 := n1_
          have HL254_0 := n2_
          have HL254_1 := n3_
          have HB := n4_
          have HO263 := n5_
          clear n0_ n1_ n2_ n3_ n4_ n5_
          clear ho hb hg hat
          refine hK.out _ _ ?_
          clear hK K
          refine norm_ (a' := ?_) ?_ ?_
          rotate_left
          ·show Act.put _ (some 48) _ = _
           simp only [Act.put, List.setIfInBounds_toArray, List.set_cons_zero, List.set_cons_succ, i64_w, i32_w]
           rfl
          refine pure_ (i := 10) (N := some 7) (v := ?_) (a' := ?_) #[true,true,true,true,true,true,true,true,true,true,true] rfl rfl (any_of HT_.out (by kernel_rfl)) (fun _ _ _ h => h) (Or.inl ⟨by rfl, ?_⟩) ?_ ?_
          rotate_left
          ·intro w'
           go_simp
           with_reducible rfl
          rotate_left
          ·simp only [Act.put, List.setIfInBounds_toArray, List.set_cons_zero, List.set_cons_succ, i64_w, i32_w]
           rfl
          refine done_ (done_of HT_.out (by kernel_rfl)) ?_
          try go_wp2
          go_roundg kj9
          case measure => have := HK1.out;have := HJ9.out;omega
          case rel => exact ⟨(y261), (wrap64 (x8_1 + 1)), (by first | rfl | (simp;done) | (simp [*];done)), H', ⟨by have := HK1.out;have := HJ9.out;omega⟩, ⟨by (with_reducible repeat (first | apply Kd.N_alloc | apply Kd.N_drewN | apply Kd.N_drew));exact Kd.N_mono HO263.out (fun _ hk => ⟨hk.1, hk.2.2⟩)⟩, ⟨by exact kP BK239.out⟩, ⟨by exact bB⟩⟩
         ·rw [if_neg c25] at H
          exact absurd H (by simp)
        ·rw [if_neg c23] at H
         exact absurd H (by simp)
       ·rw [if_neg c22] at H
        exact absurd H (by simp)
      ·rw [if_neg c21] at H
       have c21b0 : decide (x8_1 < (l2.length : Int)) = false := decide_eq_false c21
       clear c21
       by_cases c34 : 0 ≤ x8_1
       ·rw [if_pos c34] at H
        have c34b0 : decide (0 ≤ x8_1) = true := decide_eq_true c34
        clear c34
        by_cases c35 : x8_1 < (x7_1.length : Int)
        ·rw [if_pos c35] at H
         have c35b0 : decide (x8_1 < (x7_1.length : Int)) = true := decide_eq_true c35
         clear c35
         replace H := Option.bind_eq_some_iff.mp H
         obtain ⟨⟨t265, t268⟩, A360, H⟩ := H
         replace H : (if x7_1.length < 2932031007402 then (spec_l8Burn.l0 kj9 l2 (x7_1 ++ [(⟨t265, t268⟩ : S71)]) (wrap64 (x8_1 + 1)) a0_0 l0_1) else (none)) = some r := H
         have A36 := Aside0.mk A360
         clear A360
         by_cases c37 : x7_1.length < 2932031007402
         ·rw [if_pos c37] at H
          have LMc37 := Aside0.mk c37
          clear c37
          obtain ⟨y271, hy271⟩ : ∃ y_ : List (S71), y_ = (x7_1 ++ [(⟨t265, t268⟩ : S71)]) := ⟨_, rfl⟩
          replace H : (spec_l8Burn.l0 kj9 l2 y271 (wrap64 (x8_1 + 1)) a0_0 l0_1) = some r := by first | (rw [hy271];with_reducible exact H) | (have H2_ := (Option.bind_some _ _).symm.trans H;rw [hy271];with_reducible exact H2_) | (have H2_ := (Option.bind_some _ _).symm.trans H;with_reducible exact H2_) | with_reducible exact H | (rw [hy271];exact H) | exact H
          have Ny271 := Aside0.mk hy271
          clear hy271
          have H' := Aside0.mk H
          clear H
          try go_wp2_with (first | ((with_reducible refine gate_dst (N := 30) rfl ?_);(try (refine gate_guard (by rfl) ?_;dsimp only));refine Kd.R_lit (Kd.int .i64) _ 3 ?hg (N := 30) ?hd (xs := ([] : List Int)) (inner := []) (ok := fun _ => True) (okp := fun _ => True) ?hr ?hp (fun _ hk => hk) trivial (Below.refl _ _) (Nat.le_refl _) (by simp) ?_;(case hd => rfl);(case hg => rfl);(case hr => first | (go_simp;done) | (go_simp;rfl));(case hp => exact (Reps.none _ _));intro v251 w38 ho39 hb hg_ hnew_;clear hg_ hnew_;(first | rw [← Ny250.out] at ho39 | (simp only [Int.reduceToNat] at ho39;rw [← Ny250.out] at ho39));have n0_ := Aside0.mk (Kd.N_elder' (by (with_reducible repeat (first | apply Kd.N_alloc | apply Kd.N_drewN | apply Kd.N_drew));exact HO_7.out) (Kd.R_base ho39) hb);have n1_ := Aside0.mk (Kd.R_lower (Kd.R_newM (M := fun k_ => (w.heap.size ≤ k_)) ho39 (below_size (by exact bB)) (fun k_ h_ => h_)) (below_size (by exact bB)));have n2_ := Aside0.mk (blk_below (g := gb239) (o := .cells #[.int .i64 a0_0, .slice A0_1 l0_1.length c0_1] 31 (0, 0)) (by exact kP BK239.out) hb);have n3_ := Aside0.mk (below_step (by exact bB) hb);clear HO_7;clear BK239;clear HB;have HO_7 := n0_;have HO252 := n1_;have BK239 := n2_;have HB := n3_;clear n0_ n1_ n2_ n3_;clear hb ho39))
          have n0_ := Aside0.mk (Kd.N_drew HO_7.out)
          have n1_ := Aside0.mk (Kd.R_drew HO252.out)
          have n2_ := Aside0.mk (blk_drew BK239.out)
          have n3_ := Aside0.mk (below_drew1 HB.out)
          clear HO_7
          clear HO252
          clear BK239
          clear HB
          have HO_7 := n0_
          have HO252 := n1_
          have BK239 := n2_
          have HB := n3_
          clear n0_ n1_ n2_ n3_
          obtain ⟨Ao41, co41, eo41⟩ := Kd.N_slice HO_7.out
          (first | subst eo41 | (injection eo41 with f1_ f2_ f3_;have f4_ := f1_.symm;have f5_ := f3_.symm;clear f1_ f2_ f3_;subst f4_;subst f5_))
          have p264 : 0 ≤ (x8_1 : Int) := oA
          have q264 : x8_1 < (x7_1.length : Int) := oA
          obtain ⟨ad264, A264_0, c264_0, A264_1, c264_1, e264, hx264_0, hx264_1, hl264_0, hi264_0, hl264_1, hi264_1⟩ := at_T71 (Kd.N_reads' HO_7.out).2.2 x8_1 p264 q264
          cases e264
          obtain ⟨ce264, hce264, hMe264, hcc264⟩ := Kd.N_get HO_7.out z71 x8_1 p264 (by first | exact q264 | exact oA | (have e_ := (Kd.N_reads' HO_7.out).1;omega))
          obtain ⟨ua264_0, uc264_0, ua264_1, uc264_1, rfl, ul264_0, ge264_0, ul264_1, ge264_1⟩ := k71_openF hMe264
          have hv264_0 := hcc264 0 _ rfl
          rw [Nat.add_zero] at hv264_0
          replace hv264_0 := Option.some.inj (hv264_0.symm.trans hx264_0)
          injection hv264_0 with hva_ hvn_ hvc_
          rw [hva_] at ge264_0
          rw [hvc_] at ul264_0
          have HL264_0 := Aside0.mk (show Kd.V (Kd.int .i64) 3 _ w.heap.size _ _ ((rd_T71 x7_1 x8_1).f0) from Kd.V_mk ul264_0 ge264_0)
          clear hva_ hvn_ hvc_ ge264_0 ul264_0
          have hv264_1 := hcc264 1 _ rfl
          rw [add_field _ _ 1 (by omega)] at hv264_1
          replace hv264_1 := Option.some.inj (hv264_1.symm.trans hx264_1)
          injection hv264_1 with hva_ hvn_ hvc_
          rw [hva_] at ge264_1
          rw [hvc_] at ul264_1
          have HL264_1 := Aside0.mk (show Kd.V (Kd.int .i64) 3 _ w.heap.size _ _ ((rd_T71 x7_1 x8_1).f1) from Kd.V_mk ul264_1 ge264_1)
          clear hva_ hvn_ hvc_ ge264_1 ul264_1
          clear hcc264 hce264
          have HR264_0 := Aside0.mk hi264_0
          have HC264_0 := Aside0.mk hl264_0
          clear hi264_0 hl264_0
          have HR264_1 := Aside0.mk hi264_1
          have HC264_1 := Aside0.mk hl264_1
          clear hi264_1 hl264_1
          replace p264 := eq_true p264
          replace q264 := eq_true q264
          obtain ⟨Ao42, co42, eo42⟩ := Kd.R_slice HO252.out
          (first | subst eo42 | (injection eo42 with f1_ f2_ f3_;have f4_ := f1_.symm;have f5_ := f3_.symm;clear f1_ f2_ f3_;subst f4_;subst f5_))
          refine start_ (n := 11) (S := fun w' => w'.cell? ⟨gb239, 0, none⟩ = some (.int .i64 a0_0) ∧ w'.cell? ⟨gb239, 1, none⟩ = some (.slice A0_1 l0_1.length c0_1) ∧ w'.cell? (ad264.add ((x8_1).toNat * 2)) = some (.slice A264_0 ((rd_T71 x7_1 x8_1).f0).length c264_0) ∧ w'.cell? ⟨(ad264.add ((x8_1).toNat * 2)).block, (ad264.add ((x8_1).toNat * 2)).off + 1, none⟩ = some (.slice A264_1 ((rd_T71 x7_1 x8_1).f1).length c264_1)) (ds := [8, 9]) #[false,false,false,false,false,false,false,false,false,false,false] (by kernel_rfl) rfl rfl ⟨(blk_cell BK239.out 0).trans rfl, (blk_cell BK239.out 1).trans rfl, hx264_0, hx264_1⟩ (fun hHeld => ?_);refine with_tabW spec_l8Burn.tab8 spec_l8Burn.bits8 (fun HT_ HW_ => ?_)
          generalize w38.drew = w40 at HO_7 HO252 BK239 HB HL264_0 HL264_1 HR264_0 HR264_1 hx264_0 hx264_1 hHeld ⊢
          refine pure_ (i := 0) (N := some 39) (v := ?_) (a' := ?_) #[true,false,false,false,false,false,false,false,false,false,false] rfl rfl (any_of HT_.out (by kernel_rfl)) (fun _ _ _ h => h) (Or.inl ⟨by rfl, ?_⟩) ?_ ?_
          rotate_left
          ·intro w'
           go_simp
           with_reducible rfl
          rotate_left
          ·simp only [Act.put, List.setIfInBounds_toArray, List.set_cons_zero, List.set_cons_succ, i64_w, i32_w]
           rfl
          refine pure_ (i := 2) (N := some 41) (v := ?_) (a' := ?_) #[true,false,true,false,false,false,false,false,false,false,false] rfl rfl (any_of HT_.out (by kernel_rfl)) (fun _ _ _ h => h) (Or.inl ⟨by rfl, ?_⟩) ?_ ?_
          rotate_left
          ·intro w'
           go_simp
           with_reducible rfl
          rotate_left
          ·simp only [Act.put, List.setIfInBounds_toArray, List.set_cons_zero, List.set_cons_succ, i64_w, i32_w]
           rfl
          refine pure_ (i := 3) (N := some 42) (v := ?_) (a' := ?_) #[true,false,true,true,false,false,false,false,false,false,false] rfl rfl (any_of HT_.out (by kernel_rfl)) (fun _ _ _ h => h) (Or.inl ⟨by rfl, ?_⟩) ?_ ?_
          rotate_left
          ·intro w'
           go_simp
           with_reducible rfl
          rotate_left
          ·simp only [Act.put, List.setIfInBounds_toArray, List.set_cons_zero, List.set_cons_succ, i64_w, i32_w]
           rfl
          refine pure_ (i := 4) (N := some 43) (v := ?_) (a' := ?_) #[true,false,true,true,true,false,false,false,false,false,false] rfl rfl (any_of HT_.out (by kernel_rfl)) (fun _ _ _ h => h) (Or.inl ⟨by rfl, ?_⟩) ?_ ?_
          rotate_left
          ·intro w'
           go_simp
           with_reducible rfl
          rotate_left
          ·simp only [Act.put, List.setIfInBounds_toArray, List.set_cons_zero, List.set_cons_succ, i64_w, i32_w]
           rfl
          refine pure_ (i := 6) (N := some 45) (v := ?_) (a' := ?_) #[true,false,true,true,true,false,true,false,false,false,false] rfl rfl (any_of HT_.out (by kernel_rfl)) (fun _ _ _ h => h) (Or.inl ⟨by rfl, ?_⟩) ?_ ?_
          rotate_left
          ·intro w'
           go_simp
           with_reducible rfl
          rotate_left
          ·simp only [Act.put, List.setIfInBounds_toArray, List.set_cons_zero, List.set_cons_succ, i64_w, i32_w]
           rfl
          refine take_ (i := 1) (N := some 40) (v := ?_) (a' := ?_) #[true,true,true,true,true,false,true,false,false,false,false] rfl rfl (take_ofW HT_.out HW_.out (by kernel_rfl)) (fun _ _ _ h => h) (Or.inl ⟨by rfl, ?_⟩) hHeld ?_ ?_
          rotate_left
          ·rintro w' ⟨s0, s1, s2, s3⟩
           go_simp
           with_reducible rfl
          rotate_left
          ·simp only [Act.put, List.setIfInBounds_toArray, List.set_cons_zero, List.set_cons_succ, i64_w, i32_w]
           rfl
          refine take_ (i := 5) (N := some 44) (v := ?_) (a' := ?_) #[true,true,true,true,true,true,true,false,false,false,false] rfl rfl (take_ofW HT_.out HW_.out (by kernel_rfl)) (fun _ _ _ h => h) (Or.inl ⟨by rfl, ?_⟩) hHeld ?_ ?_
          rotate_left
          ·rintro w' ⟨s0, s1, s2, s3⟩
           go_simp
           with_reducible rfl
          rotate_left
          ·simp only [Act.put, List.setIfInBounds_toArray, List.set_cons_zero, List.set_cons_succ, i64_w, i32_w]
           rfl
          refine one_ (i := 7) (N := some 46) #[true,true,true,true,true,true,true,true,false,false,false] rfl rfl (one_of HT_.out (by kernel_rfl)) (by decide) (fun K hK => ?_)
          refine goes_ Try.func118 (by kernel_rfl) rfl #[.agg #[.int .i64 a0_0, .slice A0_1 l0_1.length c0_1], .agg #[.slice A264_0 ((rd_T71 x7_1 x8_1).f0).length c264_0, .slice A264_1 ((rd_T71 x7_1 x8_1).f1).length c264_1], .slice Ao42 y250.length co42] (by rfl) rfl rfl mM ?_
          with_reducible refine (spec_l8Round.calls kj9 a0_0 _ _ l0_1 _ _ ((rd_T71 x7_1 x8_1).f0) _ _ ((rd_T71 x7_1 x8_1).f1) _ _ y250 t265 t268 _ ?side1 ?side2 ?side3 ?side4 ?side5 ?side6 ?side7 ?side8 A36.out).mono ?_
          (case side1 => exact cP (Kd.C_below HR0_1.out HB.out))
          (case side2 => exact HC0_1.out)
          (case side3 => exact cP (by repeat (first | (with_reducible exact HR264_0.out) | (with_reducible refine Kd.C_alloc ?_ _) | (with_reducible refine Kd.C_drewN ?_ _) | (with_reducible refine Kd.C_drew ?_) | exact HR264_0.out)))
          (case side4 => exact HC264_0.out)
          (case side5 => exact cP (by repeat (first | (with_reducible exact HR264_1.out) | (with_reducible refine Kd.C_alloc ?_ _) | (with_reducible refine Kd.C_drewN ?_ _) | (with_reducible refine Kd.C_drew ?_) | exact HR264_1.out)))
          (case side6 => exact HC264_1.out)
          (case side7 => exact cP (Kd.R_reads' HO252.out).2.2)
          (case side8 => exact (Kd.R_reads' HO252.out).2.1)
          rintro e w43 ⟨v266, v269, rfl, ho0, ho1, hb⟩
          have HS2_ := (hb.cell (World.block_lt_of_cell? _ _ (hHeld.2.2.1))).trans (hHeld.2.2.1)
          have HS3_ := (hb.cell (World.block_lt_of_cell? _ _ (hHeld.2.2.2))).trans (hHeld.2.2.2)
          refine ⟨_, rfl, ?_⟩
          have n0_ := Aside0.mk (Kd.N_mono (Kd.N_told (Kd.N_told (Kd.N_old (by (with_reducible repeat (first | apply Kd.N_alloc | apply Kd.N_drewN | apply Kd.N_drew));exact HO_7.out) hb) (Kd.R_base ho0)) (Kd.R_base ho1)) (fun _ h_ => h_.1))
          have n1_ := Aside0.mk (Kd.R_mono (Kd.R_told (Kd.R_told (Kd.R_old (by exact rP HO252.out) hb) (Kd.R_base ho0)) (Kd.R_base ho1)) (fun _ h_ => h_.1))
          have n2_ := Aside0.mk (Kd.V_mono (Kd.V_told (Kd.V_told (Kd.V_old (by (with_reducible repeat (first | apply Kd.V_alloc | apply Kd.V_drewN | apply Kd.V_drew));exact HL264_0.out) hb) (Kd.R_base ho0)) (Kd.R_base ho1)) (fun _ h_ => h_.1))
          have n3_ := Aside0.mk (Kd.V_mono (Kd.V_told (Kd.V_told (Kd.V_old (by (with_reducible repeat (first | apply Kd.V_alloc | apply Kd.V_drewN | apply Kd.V_drew));exact HL264_1.out) hb) (Kd.R_base ho0)) (Kd.R_base ho1)) (fun _ h_ => h_.1))
          have n4_ := Aside0.mk (Kd.R_lower (Kd.R_new' (Kd.R_newM (M := fun k_ => (w.heap.size ≤ k_)) ho0 (below_size (by exact bB)) (fun k_ h_ => h_)) (Kd.R_lt (by exact rP HO252.out))) (below_size (by exact bB)))
          have n5_ := Aside0.mk (Kd.R_lower (Kd.R_new' (Kd.R_newM (M := fun k_ => (w.heap.size ≤ k_)) ho1 (below_size (by exact bB)) (fun k_ h_ => h_)) (Kd.R_lt (by exact rP HO252.out))) (below_size (by exact bB)))
          have n6_ := Aside0.mk (blk_below (g := gb239) (o := .cells #[.int .i64 a0_0, .slice A0_1 l0_1.length c0_1] 31 (0, 0)) (by exact kP BK239.out) hb)
          have n7_ := Aside0.mk (Kd.C_below (by repeat (first | (with_reducible exact HR264_0.out) | (with_reducible refine Kd.C_alloc ?_ _) | (with_reducible refine Kd.C_drewN ?_ _) | (with_reducible refine Kd.C_drew ?_) | exact HR264_0.out)) hb)
          have n8_ := Aside0.mk (Kd.C_below (by repeat (first | (with_reducible exact HR264_1.out) | (with_reducible refine Kd.C_alloc ?_ _) | (with_reducible refine Kd.C_drewN ?_ _) | (with_reducible refine Kd.C_drew ?_) | exact HR264_1.out)) hb)
          have n9_ := Aside0.mk (below_step (by exact bB) hb)
          clear HO_7
          clear HO252
          clear HL264_0
          clear HL264_1
          clear BK239
          clear HR264_0
          clear HR264_1
          clear HB
          have HO_7 := n0_
          have HO252 := n1_
          have HL264_0 := n2_
          have HL264_1 := n3_
          have HO267 := n4_
          have HO270 := n5_
          have BK239 := n6_
          have HR264_0 := n7_
          have HR264_1 := n8_
          have HB := n9_
          clear n0_ n1_ n2_ n3_ n4_ n5_ n6_ n7_ n8_ n9_
          (try clear hb)
          (try clear hb2)
          (try clear hk)
          (try clear hi)
          (try clear ho0)
          (try clear ho1)
          obtain ⟨Ao45, co45, eo45⟩ := Kd.R_slice HO267.out
          (first | subst eo45 | (injection eo45 with f1_ f2_ f3_;have f4_ := f1_.symm;have f5_ := f3_.symm;clear f1_ f2_ f3_;subst f4_;subst f5_))
          obtain ⟨Ao46, co46, eo46⟩ := Kd.R_slice HO270.out
          (first | subst eo46 | (injection eo46 with f1_ f2_ f3_;have f4_ := f1_.symm;have f5_ := f3_.symm;clear f1_ f2_ f3_;subst f4_;subst f5_))
          refine hK.out _ _ ⟨(blk_cell BK239.out 0).trans rfl, (blk_cell BK239.out 1).trans rfl, HS2_, HS3_⟩ (fun hHeld => ?_)
          clear hK K
          refine norm_ (a' := ?_) ?_ ?_
          rotate_left
          ·show Act.put _ (some 46) _ = _
           simp only [Act.put, List.setIfInBounds_toArray, List.set_cons_zero, List.set_cons_succ, i64_w, i32_w]
           rfl
          refine last_ (i := 8) (N := some 47) #[true,true,true,true,true,true,true,true,true,false,false] rfl rfl (one_of HT_.out (by kernel_rfl)) (by decide) (fun K hK => ?_)
          refine value_ (w1 := ?_) (v := ?_) (by rfl) rfl ?_ ?_
          rotate_left 2
          ·go_simp
           constructor
           ·rfl
           ·rfl
          refine hK.out _ _ ?_
          clear hK K
          refine norm_ (a' := ?_) ?_ ?_
          rotate_left
          ·show Act.put _ (some 47) _ = _
           simp only [Act.put, List.setIfInBounds_toArray, List.set_cons_zero, List.set_cons_succ, i64_w, i32_w]
           rfl
          refine last_ (i := 9) (N := some 48) #[true,true,true,true,true,true,true,true,true,true,false] rfl rfl (one_of HT_.out (by kernel_rfl)) (by decide) (fun K hK => ?_)
          refine Kd.N_append_step k71 (w0 := w) w.heap.size (by rfl) (.tmp 39) (.tmp 47) 68 71 (.agg #[(.slice none 0 0), (.slice none 0 0)]) 48 rfl Try.underlying68 info71 rfl (by decide) (by omega) (.slice (some ad264) x7_1.length co41) x7_1 (⟨t265, t268⟩ : S71) [.slice Ao45 t265.length co45, .slice Ao46 t268.length co46] (fun k_ => (w.heap.size ≤ k_) ∧ some k_ ≠ (.slice Ao42 y250.length co42 : Value).ownBlock ∧ k_ ≠ gb239) (fun k_ => ((fun k_ => (w.heap.size ≤ k_) ∧ some k_ ≠ (.slice Ao42 y250.length co42 : Value).ownBlock ∧ k_ ≠ gb239)) k_ ∧ some k_ ≠ (.slice (some ad264) x7_1.length co41 : Value).ownBlock) rfl rfl ?aP (fun _ hk => hk) ?aF ?aO ?aB ?aS ?aL ?_
          (case aP => exact (k71_mkF _ _ (⟨t265, t268⟩ : S71) (Kd.R_reads' (Kd.R_mono (ok' := (fun k_ => ((fun k_ => (w.heap.size ≤ k_) ∧ some k_ ≠ (.slice Ao42 y250.length co42 : Value).ownBlock ∧ k_ ≠ gb239)) k_ ∧ some k_ ≠ (.slice (some ad264) x7_1.length co41 : Value).ownBlock)) (Kd.R_types (Kd.R_apart' (HO267.out) (Kd.N_typed HO_7.out) (by decide)) BK239.out (by decide)) (fun k_ hk => ⟨⟨hk.1.1.1.1, ⟨hk.1.1.2, hk.2⟩⟩, hk.1.2⟩))).2.1 (Kd.R_F (Kd.R_mono (ok' := (fun k_ => ((fun k_ => (w.heap.size ≤ k_) ∧ some k_ ≠ (.slice Ao42 y250.length co42 : Value).ownBlock ∧ k_ ≠ gb239)) k_ ∧ some k_ ≠ (.slice (some ad264) x7_1.length co41 : Value).ownBlock)) (Kd.R_types (Kd.R_apart' (HO267.out) (Kd.N_typed HO_7.out) (by decide)) BK239.out (by decide)) (fun k_ hk => ⟨⟨hk.1.1.1.1, ⟨hk.1.1.2, hk.2⟩⟩, hk.1.2⟩))) (Kd.R_reads' (Kd.R_mono (ok' := (fun k_ => ((fun k_ => (w.heap.size ≤ k_) ∧ some k_ ≠ (.slice Ao42 y250.length co42 : Value).ownBlock ∧ k_ ≠ gb239)) k_ ∧ some k_ ≠ (.slice (some ad264) x7_1.length co41 : Value).ownBlock)) (Kd.R_types (Kd.R_apart' (HO270.out) (Kd.N_typed HO_7.out) (by decide)) BK239.out (by decide)) (fun k_ hk => ⟨⟨hk.1.1.1.1, ⟨hk.1.1.2, hk.2⟩⟩, hk.1.2⟩))).2.1 (Kd.R_F (Kd.R_mono (ok' := (fun k_ => ((fun k_ => (w.heap.size ≤ k_) ∧ some k_ ≠ (.slice Ao42 y250.length co42 : Value).ownBlock ∧ k_ ≠ gb239)) k_ ∧ some k_ ≠ (.slice (some ad264) x7_1.length co41 : Value).ownBlock)) (Kd.R_types (Kd.R_apart' (HO270.out) (Kd.N_typed HO_7.out) (by decide)) BK239.out (by decide)) (fun k_ hk => ⟨⟨hk.1.1.1.1, ⟨hk.1.1.2, hk.2⟩⟩, hk.1.2⟩)))))
          (case aB => exact (by exact bB))
          (case aF => exact (fun k_ hk => ⟨(Nat.le_trans (below_size (by exact bB)) hk), Kd.fresh' (Kd.R_lt (by exact rP HO252.out)) k_ hk, Kd.freshB (g := gb239) (o := .cells #[.int .i64 a0_0, .slice A0_1 l0_1.length c0_1] 31 (0, 0)) (by exact kP BK239.out) k_ hk⟩))
          (case aO => exact (by (with_reducible repeat (first | apply Kd.N_alloc | apply Kd.N_drewN | apply Kd.N_drew));exact Kd.N_mono HO_7.out (fun _ hk => ⟨hk.1.1.1.1, ⟨hk.1.1.2, hk.1.1.1.2⟩⟩)))
          (case aS => exact (below_size (by exact bB)))
          (case aL => have := LMc37.out;omega)
          intro v272 w44 ho hb hg hat
          rw [← Ny271.out] at ho
          have n0_ := Aside0.mk (blk_grown (g := gb239) (o := .cells #[.int .i64 a0_0, .slice A0_1 l0_1.length c0_1] 31 (0, 0)) (by exact kP BK239.out) hg (Kd.N_ne HO_7.out BK239.out (by decide)))
          have n1_ := Aside0.mk (Kd.R_over' (by exact rP HO252.out) (Kd.N_typed (by (with_reducible repeat (first | apply Kd.N_alloc | apply Kd.N_drewN | apply Kd.N_drew));exact HO_7.out)) (by decide) hg)
          have n2_ := Aside0.mk (Kd.V_afterv (ok := (fun k_ => (w.heap.size ≤ k_) ∧ some k_ ≠ (.slice Ao42 y250.length co42 : Value).ownBlock ∧ some k_ ≠ (.slice Ao45 t265.length co45 : Value).ownBlock ∧ some k_ ≠ (.slice Ao46 t268.length co46 : Value).ownBlock ∧ k_ ≠ gb239)) (by (with_reducible repeat (first | apply Kd.V_alloc | apply Kd.V_drewN | apply Kd.V_drew));exact Kd.V_mono HL264_0.out (fun _ hk => ⟨⟨hk.1.1.1.1.1, ⟨hk.1.1.1.2, ⟨hk.1.2, ⟨hk.2, hk.1.1.1.1.2⟩⟩⟩⟩, hk.1.1.2⟩)) hg hat)
          have n3_ := Aside0.mk (Kd.V_afterv (ok := (fun k_ => (w.heap.size ≤ k_) ∧ some k_ ≠ (.slice Ao42 y250.length co42 : Value).ownBlock ∧ some k_ ≠ (.slice Ao45 t265.length co45 : Value).ownBlock ∧ some k_ ≠ (.slice Ao46 t268.length co46 : Value).ownBlock ∧ k_ ≠ gb239)) (by (with_reducible repeat (first | apply Kd.V_alloc | apply Kd.V_drewN | apply Kd.V_drew));exact Kd.V_mono HL264_1.out (fun _ hk => ⟨⟨hk.1.1.1.1.1, ⟨hk.1.1.1.2, ⟨hk.1.2, ⟨hk.2, hk.1.1.1.1.2⟩⟩⟩⟩, hk.1.1.2⟩)) hg hat)
          have n4_ := Aside0.mk (hb)
          have n5_ := Aside0.mk (ho)
          clear BK239
          clear HO252
          clear HL264_0
          clear HL264_1
          clear HB
          clear HO_7
          clear HO267
          clear HO270
          have BK239 := n0_
          have HO252 := n1_
          have HL264_0 := n2_
          have HL264_1 := n3_
          have HB := n4_
          have HO273 := n5_
          clear n0_ n1_ n2_ n3_ n4_ n5_
          clear ho hb hg hat
          refine hK.out _ _ ?_
          clear hK K
          refine norm_ (a' := ?_) ?_ ?_
          rotate_left
          ·show Act.put _ (some 48) _ = _
           simp only [Act.put, List.setIfInBounds_toArray, List.set_cons_zero, List.set_cons_succ, i64_w, i32_w]
           rfl
          refine pure_ (i := 10) (N := some 7) (v := ?_) (a' := ?_) #[true,true,true,true,true,true,true,true,true,true,true] rfl rfl (any_of HT_.out (by kernel_rfl)) (fun _ _ _ h => h) (Or.inl ⟨by rfl, ?_⟩) ?_ ?_
          rotate_left
          ·intro w'
           go_simp
           with_reducible rfl
          rotate_left
          ·simp only [Act.put, List.setIfInBounds_toArray, List.set_cons_zero, List.set_cons_succ, i64_w, i32_w]
           rfl
          refine done_ (done_of HT_.out (by kernel_rfl)) ?_
          try go_wp2
          go_roundg kj9
          case measure => have := HK1.out;have := HJ9.out;omega
          case rel => exact ⟨(y271), (wrap64 (x8_1 + 1)), (by first | rfl | (simp;done) | (simp [*];done)), H', ⟨by have := HK1.out;have := HJ9.out;omega⟩, ⟨by (with_reducible repeat (first | apply Kd.N_alloc | apply Kd.N_drewN | apply Kd.N_drew));exact Kd.N_mono HO273.out (fun _ hk => ⟨hk.1, hk.2.2⟩)⟩, ⟨by exact kP BK239.out⟩, ⟨by exact bB⟩⟩
         ·rw [if_neg c37] at H
          exact absurd H (by simp)
        ·rw [if_neg c35] at H
         exact absurd H (by simp)
       ·rw [if_neg c34] at H
        exact absurd H (by simp)
     ·replace c20 := Bool.eq_false_iff.mpr c20
      subst c20
      have H1 : (some x7_1) = some r := by rw [if_neg (show ¬ (false = true) by decide)] at H;exact H
      clear H
      have H := H1
      clear H1
      obtain rfl := Option.some.inj H
      go_wp2
      go_ret
      exact ⟨_, by first | rfl | (simp [errW_none, errW_some] <;> rfl) | (simp [*, errW_none, errW_some] <;> rfl), by (with_reducible repeat (first | apply Kd.N_alloc | apply Kd.N_drewN | apply Kd.N_drew));exact Kd.N_mono HO_7.out (fun _ hk => hk.1), by exact bB⟩




end Go.Proofs.Ytmokkhfmbenleaa.QBurningSets
