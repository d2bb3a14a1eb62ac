import Derived.Test.YtmokkhfmbenleaaQSavedNodes0
import Derived.Test.YtmokkhfmbenleaaQSavedNodes5
import Derived.Test.YtmokkhfmbenleaaQSavedNodes6
namespace Go.Proofs.Ytmokkhfmbenleaa.QSavedNodes
open Go.RowKit Go.Proofs.YtmokkhfmbenleaaW.PrintWords Go.Proofs.YtmokkhfmbenleaaW.PrintLast Go.Proofs.YtmokkhfmbenleaaW.PrintMore
attribute [local go_sem] max2_int min2_int max_two min_two max_three min_three max_four min_four   -- for this text's walks alone
set_option linter.unusedVariables false
set_option linter.unusedSimpArgs false
/-! ### spec_l8Burn: function 65 -/
mutual
def spec_l8Burn.l0 : Nat → List (List Int) → List (S71) → Int → Int → List (S119) → Option ((List (S71)))
 | 0, _, _, _, _, _ => none
 | k + 1, x2, x7, x8, x190000, x190001 => if x8 < (x2.length : Int) then (spec_l8Burn.j1 k x2 x7 x8 true x190000 x190001) else (if 0 ≤ x8 then (if x8 < (x7.length : Int) then ((spec_l8Next.f k x190000 x190001 ((rd_T71 x7 x8).f0) ((rd_T71 x7 x8).f1)).bind fun t197 => (spec_l8Burn.j1 k x2 x7 x8 (decide ((t197.length : Int) > 0)) x190000 x190001)) else (none)) else (none))
def spec_l8Burn.j1 : Nat → List (List Int) → List (S71) → Int → Bool → Int → List (S119) → Option ((List (S71)))
 | 0, _, _, _, _, _, _ => none
 | k + 1, x2, x7, x8, x27, x190000, x190001 => if x27 = true then (if x8 < (x2.length : Int) then (if 0 ≤ x8 then (if x8 < (x7.length : Int) then ((spec_l8Round.f k x190000 x190001 ((rd_T71 x7 x8).f0) ((rd_T71 x7 x8).f1) (rd_L2 x2 x8)).bind fun bt205 => (if x7.length < 2932031007402 then (spec_l8Burn.l0 k x2 (x7 ++ [(⟨bt205.1, bt205.2⟩ : S71)]) (wrap64 (x8 + 1)) x190000 x190001) else (none))) else (none)) else (none)) else (if 0 ≤ x8 then (if x8 < (x7.length : Int) then ((spec_l8Round.f k x190000 x190001 ((rd_T71 x7 x8).f0) ((rd_T71 x7 x8).f1) (([] : List Int))).bind fun bt215 => (if x7.length < 2932031007402 then (spec_l8Burn.l0 k x2 (x7 ++ [(⟨bt215.1, bt215.2⟩ : S71)]) (wrap64 (x8 + 1)) x190000 x190001) else (none))) else (none)) else (none))) else (some x7)
end
def spec_l8Burn.f (k : Nat) (a0_0 : Int) (l0_1 : List (S119)) (a1 : Int) (l2 : List (List Int)) : Option ((List (S71))) := spec_l8Burn.l0 k l2 (([(⟨(([a1] : List Int)), ([] : List Int)⟩ : S71)] : List (S71))) 0 a0_0 l0_1
theorem spec_l8Burn.mono_l : ∀ k, (∀ y0 y1 y2 y3 y4, LeO (spec_l8Burn.l0 k y0 y1 y2 y3 y4) (spec_l8Burn.l0 (k + 1) y0 y1 y2 y3 y4)) ∧ (∀ y0 y1 y2 y3 y4 y5, LeO (spec_l8Burn.j1 k y0 y1 y2 y3 y4 y5) (spec_l8Burn.j1 (k + 1) y0 y1 y2 y3 y4 y5))
 | 0 => ⟨fun _ _ _ _ _ r h => by simp [spec_l8Burn.l0] at h, fun _ _ _ _ _ _ r h => by simp [spec_l8Burn.j1] at h⟩
 | k + 1 => by
  obtain ⟨ih0, ih1⟩ := spec_l8Burn.mono_l k
  refine ⟨?_, ?_⟩
  ·intro y0 y1 y2 y3 y4
   unfold spec_l8Burn.l0
   repeat' first
   | (with_reducible exact ih0 _ _ _ _ _)
   | (with_reducible exact ih1 _ _ _ _ _ _)
   | (with_reducible exact spec_l8Next.mono _ _ _ _ _)
   | (with_reducible exact spec_l8Round.mono _ _ _ _ _ _)
   | (with_reducible exact LeO.refl _)
   | (with_reducible exact LeO.none _)
   | (with_reducible refine LeO.ite ?_ ?_)
   | (with_reducible refine LeO.bind ?_ (fun _ => ?_))
   | exact ih0 _ _ _ _ _
   | exact ih1 _ _ _ _ _ _
   | exact spec_l8Next.mono _ _ _ _ _
   | exact spec_l8Round.mono _ _ _ _ _ _
   | exact LeO.none _
   | refine LeO.ite ?_ ?_
   | refine LeO.bind ?_ (fun _ => ?_)
  ·intro y0 y1 y2 y3 y4 y5
   unfold spec_l8Burn.j1
   repeat' first
   | (with_reducible exact ih0 _ _ _ _ _)
   | (with_reducible exact ih1 _ _ _ _ _ _)
   | (with_reducible exact spec_l8Next.mono _ _ _ _ _)
   | (with_reducible exact spec_l8Round.mono _ _ _ _ _ _)
   | (with_reducible exact LeO.refl _)
   | (with_reducible exact LeO.none _)
   | (with_reducible refine LeO.ite ?_ ?_)
   | (with_reducible refine LeO.bind ?_ (fun _ => ?_))
   | exact ih0 _ _ _ _ _
   | exact ih1 _ _ _ _ _ _
   | exact spec_l8Next.mono _ _ _ _ _
   | exact spec_l8Round.mono _ _ _ _ _ _
   | exact LeO.none _
   | refine LeO.ite ?_ ?_
   | refine LeO.bind ?_ (fun _ => ?_)
theorem spec_l8Burn.mono : ∀ a0 a1 a2 a3 k, LeO (spec_l8Burn.f k a0 a1 a2 a3) (spec_l8Burn.f (k + 1) a0 a1 a2 a3) := by
 intro a0 a1 a2 a3 k
 obtain ⟨ih0, ih1⟩ := spec_l8Burn.mono_l k
 unfold spec_l8Burn.f
 repeat' first
   | (with_reducible exact ih0 _ _ _ _ _)
   | (with_reducible exact ih1 _ _ _ _ _ _)
   | (with_reducible exact spec_l8Next.mono _ _ _ _ _)
   | (with_reducible exact spec_l8Round.mono _ _ _ _ _ _)
   | (with_reducible exact LeO.refl _)
   | (with_reducible exact LeO.none _)
   | (with_reducible refine LeO.ite ?_ ?_)
   | (with_reducible refine LeO.bind ?_ (fun _ => ?_))
   | exact ih0 _ _ _ _ _
   | exact ih1 _ _ _ _ _ _
   | exact spec_l8Next.mono _ _ _ _ _
   | exact spec_l8Round.mono _ _ _ _ _ _
   | exact LeO.none _
   | refine LeO.ite ?_ ?_
   | refine LeO.bind ?_ (fun _ => ?_)
def spec_l8Burn.T3 : Bool × List (List Nat × List Nat) := (true, [([], []), ([], []), ([1], [1]), ([0, 2], [0, 2]), ([3], [3]), ([4], [4]), ([4], [4]), ([4], [4]), ([6, 7, 4], [4, 6, 7]), ([8, 4], [4, 8]), ([5, 9, 4, 4], [4, 5, 9]), ([10, 4], [4, 10]), ([11, 4], [4, 11]), ([4, 12], [4, 12])])
def spec_l8Burn.B3 : List Nat := [0, 0, 2, 7, 15, 31, 31, 31, 223, 479, 1023, 2047, 4095, 8191]
theorem spec_l8Burn.tab3 : rtab .any (opsOf Try.f65 3) = spec_l8Burn.T3 := by kernel_rfl
theorem spec_l8Burn.bits3 : waitsOk spec_l8Burn.T3.2 spec_l8Burn.B3 = true := by kernel_rfl
def spec_l8Burn.T8 : Bool × List (List Nat × List Nat) := (true, [([], []), ([], []), ([], []), ([], []), ([2, 3], [2, 3]), ([4], [4]), ([], []), ([1, 5, 6], [1, 5, 6]), ([7], [7]), ([0, 8, 7], [0, 8]), ([9, 9, 0, 1, 2, 3, 4, 5, 6, 7, 8, 9], [0, 2, 9])])
def spec_l8Burn.B8 : List Nat := [0, 0, 0, 0, 12, 28, 0, 126, 254, 511, 1023]
theorem spec_l8Burn.tab8 : rtab .any (opsOf Try.f65 8) = spec_l8Burn.T8 := by kernel_rfl
theorem spec_l8Burn.bits8 : waitsOk spec_l8Burn.T8.2 spec_l8Burn.B8 = true := by kernel_rfl
set_option maxHeartbeats 8000000 in
set_option maxRecDepth 100000 in
theorem spec_l8Burn.calls (k : Nat) (a0_0 : Int) (A0_1 : Option Addr) (c0_1 : Nat) (l0_1 : List (S119)) (a1 : Int) (A2 : Option Addr) (c2 : Nat) (l2 : List (List Int)) (r : List (S71)) (w : World) (hr0_1 : Kd.C k119 w A0_1 l0_1.length l0_1) (hc0_1 : l0_1.length ≤ c0_1) (hr2 : Kd.C (Kd.slice 3 (Kd.int .i64)) w A2 l2.length l2) (hc2 : l2.length ≤ c2) (h : spec_l8Burn.f k a0_0 l0_1 a1 l2 = some r) :
  Calls Try.prog 65 #[.agg #[.int .i64 a0_0, .slice A0_1 l0_1.length c0_1], .int .i64 a1, .slice A2 l2.length c2] w fun e w' => ∃ v0_ : Value, e = .returned (v0_) ∧ Kd.N k71 71 w' w.heap.size (fun k_ => (w.heap.size ≤ k_)) v0_ r ∧ Below w.heap.size w w' := by
 have hu31 := Try.underlying31
 have hu71 := Try.underlying71
 have HR0_1 := Aside0.mk hr0_1
 have HC0_1 := Aside0.mk hc0_1
 clear hr0_1 hc0_1
 have HR2 := Aside0.mk hr2
 have HC2 := Aside0.mk hc2
 clear hr2 hc2
 have HB := Aside0.mk (Below.refl w.heap.size w)
 have H : (spec_l8Burn.l0 k l2 (([(⟨(([a1] : List Int)), ([] : List Int)⟩ : S71)] : List (S71))) 0 a0_0 l0_1) = some r := h
 clear h
 obtain ⟨y190, hy190⟩ : ∃ y_ : List Int, y_ = (([a1] : List Int)) := ⟨_, rfl⟩
 replace H : (spec_l8Burn.l0 k l2 (([(⟨y190, ([] : List Int)⟩ : S71)] : List (S71))) 0 a0_0 l0_1) = some r := by first | (rw [hy190];with_reducible exact H) | (have H2_ := (Option.bind_some _ _).symm.trans H;rw [hy190];with_reducible exact H2_) | (have H2_ := (Option.bind_some _ _).symm.trans H;with_reducible exact H2_) | with_reducible exact H | (rw [hy190];exact H) | exact H
 have Ny190 := Aside0.mk hy190
 clear hy190
 obtain ⟨y193, hy193⟩ : ∃ y_ : List (S71), y_ = (([(⟨y190, ([] : List Int)⟩ : S71)] : List (S71))) := ⟨_, rfl⟩
 replace H : (spec_l8Burn.l0 k l2 y193 0 a0_0 l0_1) = some r := by first | (rw [hy193];with_reducible exact H) | (have H2_ := (Option.bind_some _ _).symm.trans H;rw [hy193];with_reducible exact H2_) | (have H2_ := (Option.bind_some _ _).symm.trans H;with_reducible exact H2_) | with_reducible exact H | (rw [hy193];exact H) | exact H
 have Ny193 := Aside0.mk hy193
 clear hy193
 have H' := Aside0.mk H
 clear H
 go_enter Try.func65, Try.ntmps65
 go_wp2_with (first | ((with_reducible refine gate_dst (N := 3) rfl ?_);(try (refine gate_guard (by rfl) ?_;dsimp only));refine box_event ?hg (N := 3) ?hd (cs := #[.int .i64 a0_0, .slice A0_1 l0_1.length c0_1]) (t := 31) ?hr ?_;(case hd => rfl);(case hg => rfl);(case hr => first | (go_simp;done) | (go_simp;rfl));intro gb189 hg w4 hbox hb;have n0_ := Aside0.mk (below_step (by exact bB) hb);have n1_ := Aside0.mk (hbox);have n2_ := Aside0.mk ((by rw [hg];exact (below_size (by exact bB)) : w.heap.size ≤ gb189));have n3_ := Aside0.mk ((by rw [hg];exact (below_size (by exact bB)) : w.heap.size ≤ gb189));clear HB;have HB := n0_;have BK189 := n1_;have GW189 := n2_;have GE189 := n3_;clear n0_ n1_ n2_ n3_;clear hb hbox hg) | ((with_reducible refine gate_dst (N := 11) rfl ?_);(try (refine gate_guard (by rfl) ?_;dsimp only));refine Kd.R_lit (Kd.int .i64) _ 3 ?hg (N := 11) ?hd (xs := ([a1] : List Int)) (inner := [.int .i64 a1]) (ok := fun _ => True) (okp := fun _ => True) ?hr ?hp (fun _ hk => hk) trivial (Below.refl _ _) (Nat.le_refl _) (by simp) ?_;(case hd => rfl);(case hg => rfl);(case hr => first | (go_simp;done) | (go_simp;rfl));(case hp => exact (Reps.one (show Kd.M (Kd.int .i64) _ _ _ a1 [.int .i64 a1] from rfl) (Reps.none _ _)));intro v191 w5 ho6 hb hg_ hnew_;clear hg_ hnew_;(first | rw [← Ny190.out] at ho6 | (simp only [Int.reduceToNat] at ho6;rw [← Ny190.out] at ho6));have n0_ := Aside0.mk (Kd.R_lower (Kd.R_newM (M := fun k_ => (w.heap.size ≤ k_)) ho6 (below_size (by exact bB)) (fun k_ h_ => h_)) (below_size (by exact bB)));have n1_ := Aside0.mk (blk_below (g := gb189) (o := .cells #[.int .i64 a0_0, .slice A0_1 l0_1.length c0_1] 31 (0, 0)) (by exact kP BK189.out) hb);have n2_ := Aside0.mk (below_step (by exact bB) hb);clear BK189;clear HB;have HO192 := n0_;have BK189 := n1_;have HB := n2_;clear n0_ n1_ n2_;clear hb ho6;obtain ⟨Ao7, co7, eo7⟩ := Kd.R_slice HO192.out;subst eo7) | ((with_reducible refine gate_dst (N := 13) rfl ?_);(try (refine gate_guard (by rfl) ?_;dsimp only));refine Kd.N_lit k71 _ 71 ?hg (N' := 13) ?hd (xs := ([(⟨y190, ([] : List Int)⟩ : S71)] : List (S71))) (inner := [.slice Ao7 y190.length co7, .slice none 0 0]) (ok := (fun k_ => (w.heap.size ≤ k_) ∧ k_ ≠ gb189)) (okp := (fun k_ => (w.heap.size ≤ k_) ∧ k_ ≠ gb189)) ?hr ?hp (fun _ hk => hk) ((show ∀ k_, w5.heap.size ≤ k_ → (fun k_ => (w.heap.size ≤ k_) ∧ k_ ≠ gb189) k_ from fun k_ hk => ⟨(Nat.le_trans (below_size (by exact bB)) hk), Kd.freshB (g := gb189) (o := .cells #[.int .i64 a0_0, .slice A0_1 l0_1.length c0_1] 31 (0, 0)) (by exact kP BK189.out) k_ hk⟩) _ (Nat.le_refl _)) (Below.refl _ _) (Nat.le_refl _) (by simp) ?_;(case hd => rfl);(case hg => rfl);(case hr => first | (go_simp;done) | (go_simp;rfl));(case hp => exact (Reps.c2 (show Kd.FK k71 _ _ (⟨y190, ([] : List Int)⟩ : S71) [.slice Ao7 y190.length co7, .slice none 0 0] from (k71_mkF _ _ (⟨y190, ([] : List Int)⟩ : S71) (Kd.R_reads' (Kd.R_mono (ok' := (fun k_ => (w.heap.size ≤ k_) ∧ k_ ≠ gb189)) (Kd.R_types (HO192.out) BK189.out (by decide)) (fun k_ hk => ⟨hk.1.1, hk.2⟩))).2.1 (Kd.R_F (Kd.R_mono (ok' := (fun k_ => (w.heap.size ≤ k_) ∧ k_ ≠ gb189)) (Kd.R_types (HO192.out) BK189.out (by decide)) (fun k_ hk => ⟨hk.1.1, hk.2⟩))) (Nat.le_refl _) (Kd.F_nil _ _ _))) (Reps.none _ _)));intro v194 w8 ho9 hb hg_ hnew_;clear hg_ hnew_;(first | rw [← Ny193.out] at ho9 | (simp only [Int.reduceToNat] at ho9;rw [← Ny193.out] at ho9));have n0_ := Aside0.mk (Kd.N_lower ho9 (below_size (by exact bB)));have n1_ := Aside0.mk (blk_below (g := gb189) (o := .cells #[.int .i64 a0_0, .slice A0_1 l0_1.length c0_1] 31 (0, 0)) (by exact kP BK189.out) hb);have n2_ := Aside0.mk (below_step (by exact bB) hb);clear BK189;clear HB;clear HO192;have HO195 := n0_;have BK189 := n1_;have HB := n2_;clear n0_ n1_ n2_;clear hb ho9))
 go_loopg [7, 8] k (fun kq v7 v8 w' => ∃ (x7_1 : List (S71)) (x8_1 : Int), v8 = .int .i64 x8_1 ∧ Aside0 (spec_l8Burn.l0 kq l2 x7_1 x8_1 a0_0 l0_1 = some r) ∧ Aside0 (kq ≤ k) ∧ Aside0 (Kd.N k71 71 w' w.heap.size (fun k_ => (w.heap.size ≤ k_) ∧ k_ ≠ gb189) v7 x7_1) ∧ Aside0 (w'.heap[gb189]? = some (.cells #[.int .i64 a0_0, (.slice A0_1 l0_1.length c0_1)] 31 (0, 0))) ∧ Aside0 (Below w.heap.size w w'))
 case atStart => exact ⟨(y193), (0), (by first | rfl | (simp;done) | (simp [*];done)), H', ⟨Nat.le_refl _⟩, ⟨by (with_reducible repeat (first | apply Kd.N_alloc | apply Kd.N_drewN | apply Kd.N_drew));exact HO195.out⟩, ⟨by exact kP BK189.out⟩, ⟨by exact bB⟩⟩
 case round =>
  clear H'
  try clear c2
  try clear p2
  try clear c6
  obtain ⟨x7_1, x8_1, rfl, HA, HK1, HO_7, BK189, HB⟩ := hrel
  cases gk with
  | zero => exact absurd HA.out (by simp [spec_l8Burn.l0])
  | succ k1 =>
   have H := HA.out
   clear HA
   simp only [spec_l8Burn.l0] at H
   have HC10 := Aside0.mk H
   clear H
   go_upto_region 3 with (fail)
   go_cut [27] (fun v27 wc => ∃ (kq : Nat) (x27_9 : Bool), v27 = .bool x27_9 ∧ Aside0 (spec_l8Burn.j1 kq l2 x7_1 x8_1 x27_9 a0_0 l0_1 = some r) ∧ Aside0 (kq ≤ k1) ∧ Aside0 (Kd.N k71 71 wc w.heap.size (fun k_ => (w.heap.size ≤ k_) ∧ k_ ≠ gb189) u7 x7_1) ∧ Aside0 (wc.heap[gb189]? = some (.cells #[.int .i64 a0_0, (.slice A0_1 l0_1.length c0_1)] 31 (0, 0))) ∧ Aside0 (Below w.heap.size w wc))
   case first =>
    have H := HC10.out
    clear HC10
    by_cases c11 : x8_1 < (l2.length : Int)
    ·rw [if_pos c11] at H
     have c11b0 : decide (x8_1 < (l2.length : Int)) = true := decide_eq_true c11
     clear c11
     (first | rw [c11b0] | (simp only [i64_w, i32_w];rw [c11b0]) | skip)
     have H' := Aside0.mk H
     clear H
     try go_wp2
     have n0_ := Aside0.mk (Kd.N_drew HO_7.out)
     have n1_ := Aside0.mk (blk_drew BK189.out)
     have n2_ := Aside0.mk (below_drew1 HB.out)
     clear HO_7
     clear BK189
     clear HB
     have HO_7 := n0_
     have BK189 := n1_
     have HB := n2_
     clear n0_ n1_ n2_
     refine start_ (n := 14) (S := fun w' => True) (ds := []) #[false,false,false,false,false,false,false,false,false,false,false,false,false,false] (by kernel_rfl) rfl rfl trivial (fun hHeld => ?_);refine with_tabW spec_l8Burn.tab3 spec_l8Burn.bits3 (fun HT_ HW_ => ?_)
     generalize wr.drew = w12 at HO_7 BK189 HB hHeld ⊢
     refine pure_ (i := 0) (N := some 14) (v := ?_) (a' := ?_) #[true,false,false,false,false,false,false,false,false,false,false,false,false,false] rfl rfl (any_of HT_.out (by kernel_rfl)) (fun _ _ _ h => h) (Or.inl ⟨by rfl, ?_⟩) ?_ ?_
     rotate_left
     ·intro w'
      go_simp
      with_reducible rfl
     rotate_left
     ·simp only [Act.put, List.setIfInBounds_toArray, List.set_cons_zero, List.set_cons_succ, i64_w, i32_w]
      rfl
     refine pure_ (i := 1) (N := some 15) (v := ?_) (a' := ?_) #[true,true,false,false,false,false,false,false,false,false,false,false,false,false] rfl rfl (any_of HT_.out (by kernel_rfl)) (fun _ _ _ h => h) (Or.inl ⟨by rfl, ?_⟩) ?_ ?_
     rotate_left
     ·intro w'
      go_simp
      with_reducible rfl
     rotate_left
     ·simp only [Act.put, List.setIfInBounds_toArray, List.set_cons_zero, List.set_cons_succ, i64_w, i32_w]
      rfl
     refine pure_ (i := 2) (N := some 16) (v := ?_) (a' := ?_) #[true,true,true,false,false,false,false,false,false,false,false,false,false,false] rfl rfl (any_of HT_.out (by kernel_rfl)) (fun _ _ _ h => h) (Or.inl ⟨by rfl, ?_⟩) ?_ ?_
     rotate_left
     ·intro w'
      go_simp
      with_reducible rfl
     rotate_left
     ·simp only [Act.put, List.setIfInBounds_toArray, List.set_cons_zero, List.set_cons_succ, i64_w, i32_w]
      rfl
     refine pure_ (i := 3) (N := some 17) (v := ?_) (a' := ?_) #[true,true,true,true,false,false,false,false,false,false,false,false,false,false] rfl rfl (any_of HT_.out (by kernel_rfl)) (fun _ _ _ h => h) (Or.inl ⟨by rfl, ?_⟩) ?_ ?_
     rotate_left
     ·intro w'
      go_simp
      with_reducible rfl
     rotate_left
     ·simp only [Act.put, List.setIfInBounds_toArray, List.set_cons_zero, List.set_cons_succ, i64_w, i32_w]
      rfl
     refine pure_ (i := 4) (N := some 18) (v := ?_) (a' := ?_) #[true,true,true,true,true,false,false,false,false,false,false,false,false,false] rfl rfl (any_of HT_.out (by kernel_rfl)) (fun _ _ _ h => h) (Or.inl ⟨by rfl, ?_⟩) ?_ ?_
     rotate_left
     ·intro w'
      go_simp
      with_reducible rfl
     rotate_left
     ·simp only [Act.put, List.setIfInBounds_toArray, List.set_cons_zero, List.set_cons_succ, i64_w, i32_w]
      rfl
     refine pure_ (i := 5) (N := some 19) (v := undef) (a' := ?_) #[true,true,true,true,true,true,false,false,false,false,false,false,false,false] rfl rfl (any_of HT_.out (by kernel_rfl)) (fun _ _ _ h => h) (Or.inr ⟨by rfl, rfl⟩) ?_ ?_
     rotate_left
     ·simp only [Act.put, List.setIfInBounds_toArray, List.set_cons_zero, List.set_cons_succ, i64_w, i32_w]
      rfl
     refine pure_ (i := 6) (N := some 20) (v := undef) (a' := ?_) #[true,true,true,true,true,true,true,false,false,false,false,false,false,false] rfl rfl (any_of HT_.out (by kernel_rfl)) (fun _ _ _ h => h) (Or.inr ⟨by rfl, rfl⟩) ?_ ?_
     rotate_left
     ·simp only [Act.put, List.setIfInBounds_toArray, List.set_cons_zero, List.set_cons_succ, i64_w, i32_w]
      rfl
     refine pure_ (i := 7) (N := some 21) (v := undef) (a' := ?_) #[true,true,true,true,true,true,true,true,false,false,false,false,false,false] rfl rfl (any_of HT_.out (by kernel_rfl)) (fun _ _ _ h => h) (Or.inr ⟨by rfl, rfl⟩) ?_ ?_
     rotate_left
     ·simp only [Act.put, List.setIfInBounds_toArray, List.set_cons_zero, List.set_cons_succ, i64_w, i32_w]
      rfl
     refine pure_ (i := 8) (N := some 22) (v := undef) (a' := ?_) #[true,true,true,true,true,true,true,true,true,false,false,false,false,false] rfl rfl (any_of HT_.out (by kernel_rfl)) (fun _ _ _ h => h) (Or.inr ⟨by rfl, rfl⟩) ?_ ?_
     rotate_left
     ·simp only [Act.put, List.setIfInBounds_toArray, List.set_cons_zero, List.set_cons_succ, i64_w, i32_w]
      rfl
     refine pure_ (i := 9) (N := some 23) (v := undef) (a' := ?_) #[true,true,true,true,true,true,true,true,true,true,false,false,false,false] rfl rfl (any_of HT_.out (by kernel_rfl)) (fun _ _ _ h => h) (Or.inr ⟨by rfl, rfl⟩) ?_ ?_
     rotate_left
     ·simp only [Act.put, List.setIfInBounds_toArray, List.set_cons_zero, List.set_cons_succ, i64_w, i32_w]
      rfl
     refine pure_ (i := 10) (N := some 24) (v := undef) (a' := ?_) #[true,true,true,true,true,true,true,true,true,true,true,false,false,false] rfl rfl (any_of HT_.out (by kernel_rfl)) (fun _ _ _ h => h) (Or.inr ⟨by rfl, rfl⟩) ?_ ?_
     rotate_left
     ·simp only [Act.put, List.setIfInBounds_toArray, List.set_cons_zero, List.set_cons_succ, i64_w, i32_w]
      rfl
     refine pure_ (i := 11) (N := some 25) (v := undef) (a' := ?_) #[true,true,true,true,true,true,true,true,true,true,true,true,false,false] rfl rfl (any_of HT_.out (by kernel_rfl)) (fun _ _ _ h => h) (Or.inr ⟨by rfl, rfl⟩) ?_ ?_
     rotate_left
     ·simp only [Act.put, List.setIfInBounds_toArray, List.set_cons_zero, List.set_cons_succ, i64_w, i32_w]
      rfl
     refine pure_ (i := 12) (N := some 26) (v := undef) (a' := ?_) #[true,true,true,true,true,true,true,true,true,true,true,true,true,false] rfl rfl (any_of HT_.out (by kernel_rfl)) (fun _ _ _ h => h) (Or.inr ⟨by rfl, rfl⟩) ?_ ?_
     rotate_left
     ·simp only [Act.put, List.setIfInBounds_toArray, List.set_cons_zero, List.set_cons_succ, i64_w, i32_w]
      rfl
     refine pure_ (i := 13) (N := some 27) (v := ?_) (a' := ?_) #[true,true,true,true,true,true,true,true,true,true,true,true,true,true] rfl rfl (any_of HT_.out (by kernel_rfl)) (fun _ _ _ h => h) (Or.inl ⟨by rfl, ?_⟩) ?_ ?_
     rotate_left
     ·intro w'
      go_simp
      with_reducible rfl
     rotate_left
     ·simp only [Act.put, List.setIfInBounds_toArray, List.set_cons_zero, List.set_cons_succ, i64_w, i32_w]
      rfl
     refine done_ (done_of HT_.out (by kernel_rfl)) ?_
     try go_wp2
     go_meet
     case rel => exact ⟨_, (true), (by first | rfl | (simp;done) | (simp [*];done)), H', ⟨by have := HK1.out;first | omega | exact Nat.le_refl _⟩, ⟨by (with_reducible repeat (first | apply Kd.N_alloc | apply Kd.N_drewN | apply Kd.N_drew));exact HO_7.out⟩, ⟨by exact kP BK189.out⟩, ⟨by exact bB⟩⟩
    ·rw [if_neg c11] at H
     have c11b0 : decide (x8_1 < (l2.length : Int)) = false := decide_eq_false c11
     clear c11
     (first | rw [c11b0] | (simp only [i64_w, i32_w];rw [c11b0]) | skip)
     by_cases c13 : 0 ≤ x8_1
     ·rw [if_pos c13] at H
      have c13b0 : decide (0 ≤ x8_1) = true := decide_eq_true c13
      clear c13
      by_cases c14 : x8_1 < (x7_1.length : Int)
      ·rw [if_pos c14] at H
       have c14b0 : decide (x8_1 < (x7_1.length : Int)) = true := decide_eq_true c14
       clear c14
       replace H := Option.bind_eq_some_iff.mp H
       obtain ⟨t197, A150, H⟩ := H
       replace H : (spec_l8Burn.j1 k1 l2 x7_1 x8_1 (decide ((t197.length : Int) > 0)) a0_0 l0_1) = some r := H
       have A15 := Aside0.mk A150
       clear A150
       have H' := Aside0.mk H
       clear H
       try go_wp2
       have n0_ := Aside0.mk (Kd.N_drew HO_7.out)
       have n1_ := Aside0.mk (blk_drew BK189.out)
       have n2_ := Aside0.mk (below_drew1 HB.out)
       clear HO_7
       clear BK189
       clear HB
       have HO_7 := n0_
       have BK189 := n1_
       have HB := n2_
       clear n0_ n1_ n2_
       obtain ⟨Ao17, co17, eo17⟩ := Kd.N_slice HO_7.out
       (first | subst eo17 | (injection eo17 with f1_ f2_ f3_;have f4_ := f1_.symm;have f5_ := f3_.symm;clear f1_ f2_ f3_;subst f4_;subst f5_))
       have p196 : 0 ≤ (x8_1 : Int) := oA
       have q196 : x8_1 < (x7_1.length : Int) := oA
       obtain ⟨ad196, A196_0, c196_0, A196_1, c196_1, e196, hx196_0, hx196_1, hl196_0, hi196_0, hl196_1, hi196_1⟩ := at_T71 (Kd.N_reads' HO_7.out).2.2 x8_1 p196 q196
       cases e196
       obtain ⟨ce196, hce196, hMe196, hcc196⟩ := Kd.N_get HO_7.out z71 x8_1 p196 (by first | exact q196 | exact oA | (have e_ := (Kd.N_reads' HO_7.out).1;omega))
       obtain ⟨ua196_0, uc196_0, ua196_1, uc196_1, rfl, ul196_0, ge196_0, ul196_1, ge196_1⟩ := k71_openF hMe196
       have hv196_0 := hcc196 0 _ rfl
       rw [Nat.add_zero] at hv196_0
       replace hv196_0 := Option.some.inj (hv196_0.symm.trans hx196_0)
       injection hv196_0 with hva_ hvn_ hvc_
       rw [hva_] at ge196_0
       rw [hvc_] at ul196_0
       have HL196_0 := Aside0.mk (show Kd.V (Kd.int .i64) 3 _ w.heap.size _ _ ((rd_T71 x7_1 x8_1).f0) from Kd.V_mk ul196_0 ge196_0)
       clear hva_ hvn_ hvc_ ge196_0 ul196_0
       have hv196_1 := hcc196 1 _ rfl
       rw [add_field _ _ 1 (by omega)] at hv196_1
       replace hv196_1 := Option.some.inj (hv196_1.symm.trans hx196_1)
       injection hv196_1 with hva_ hvn_ hvc_
       rw [hva_] at ge196_1
       rw [hvc_] at ul196_1
       have HL196_1 := Aside0.mk (show Kd.V (Kd.int .i64) 3 _ w.heap.size _ _ ((rd_T71 x7_1 x8_1).f1) from Kd.V_mk ul196_1 ge196_1)
       clear hva_ hvn_ hvc_ ge196_1 ul196_1
       clear hcc196 hce196
       have HR196_0 := Aside0.mk hi196_0
       have HC196_0 := Aside0.mk hl196_0
       clear hi196_0 hl196_0
       have HR196_1 := Aside0.mk hi196_1
       have HC196_1 := Aside0.mk hl196_1
       clear hi196_1 hl196_1
       replace p196 := eq_true p196
       replace q196 := eq_true q196
       refine start_ (n := 14) (S := fun w' => w'.cell? ⟨gb189, 0, none⟩ = some (.int .i64 a0_0) ∧ w'.cell? ⟨gb189, 1, none⟩ = some (.slice A0_1 l0_1.length c0_1) ∧ w'.cell? (ad196.add ((x8_1).toNat * 2)) = some (.slice A196_0 ((rd_T71 x7_1 x8_1).f0).length c196_0) ∧ w'.cell? ⟨(ad196.add ((x8_1).toNat * 2)).block, (ad196.add ((x8_1).toNat * 2)).off + 1, none⟩ = some (.slice A196_1 ((rd_T71 x7_1 x8_1).f1).length c196_1)) (ds := []) #[false,false,false,false,false,false,false,false,false,false,false,false,false,false] (by kernel_rfl) rfl rfl ⟨(blk_cell BK189.out 0).trans rfl, (blk_cell BK189.out 1).trans rfl, hx196_0, hx196_1⟩ (fun hHeld => ?_);refine with_tabW spec_l8Burn.tab3 spec_l8Burn.bits3 (fun HT_ HW_ => ?_)
       generalize wr.drew = w16 at HO_7 BK189 HB HL196_0 HL196_1 HR196_0 HR196_1 hx196_0 hx196_1 hHeld ⊢
       refine pure_ (i := 0) (N := some 14) (v := ?_) (a' := ?_) #[true,false,false,false,false,false,false,false,false,false,false,false,false,false] rfl rfl (any_of HT_.out (by kernel_rfl)) (fun _ _ _ h => h) (Or.inl ⟨by rfl, ?_⟩) ?_ ?_
       rotate_left
       ·intro w'
        go_simp
        with_reducible rfl
       rotate_left
       ·simp only [Act.put, List.setIfInBounds_toArray, List.set_cons_zero, List.set_cons_succ, i64_w, i32_w]
        rfl
       refine pure_ (i := 1) (N := some 15) (v := ?_) (a' := ?_) #[true,true,false,false,false,false,false,false,false,false,false,false,false,false] rfl rfl (any_of HT_.out (by kernel_rfl)) (fun _ _ _ h => h) (Or.inl ⟨by rfl, ?_⟩) ?_ ?_
       rotate_left
       ·intro w'
        go_simp
        with_reducible rfl
       rotate_left
       ·simp only [Act.put, List.setIfInBounds_toArray, List.set_cons_zero, List.set_cons_succ, i64_w, i32_w]
        rfl
       refine pure_ (i := 2) (N := some 16) (v := ?_) (a' := ?_) #[true,true,true,false,false,false,false,false,false,false,false,false,false,false] rfl rfl (any_of HT_.out (by kernel_rfl)) (fun _ _ _ h => h) (Or.inl ⟨by rfl, ?_⟩) ?_ ?_
       rotate_left
       ·intro w'
        go_simp
        with_reducible rfl
       rotate_left
       ·simp only [Act.put, List.setIfInBounds_toArray, List.set_cons_zero, List.set_cons_succ, i64_w, i32_w]
        rfl
       refine pure_ (i := 3) (N := some 17) (v := ?_) (a' := ?_) #[true,true,true,true,false,false,false,false,false,false,false,false,false,false] rfl rfl (any_of HT_.out (by kernel_rfl)) (fun _ _ _ h => h) (Or.inl ⟨by rfl, ?_⟩) ?_ ?_
       rotate_left
       ·intro w'
        go_simp
        with_reducible rfl
       rotate_left
       ·simp only [Act.put, List.setIfInBounds_toArray, List.set_cons_zero, List.set_cons_succ, i64_w, i32_w]
        rfl
       refine pure_ (i := 4) (N := some 18) (v := ?_) (a' := ?_) #[true,true,true,true,true,false,false,false,false,false,false,false,false,false] rfl rfl (any_of HT_.out (by kernel_rfl)) (fun _ _ _ h => h) (Or.inl ⟨by rfl, ?_⟩) ?_ ?_
       rotate_left
       ·intro w'
        go_simp
        with_reducible rfl
       rotate_left
       ·simp only [Act.put, List.setIfInBounds_toArray, List.set_cons_zero, List.set_cons_succ, i64_w, i32_w]
        rfl
       refine pure_ (i := 6) (N := some 20) (v := ?_) (a' := ?_) #[true,true,true,true,true,false,true,false,false,false,false,false,false,false] rfl rfl (any_of HT_.out (by kernel_rfl)) (fun _ _ _ h => h) (Or.inl ⟨by rfl, ?_⟩) ?_ ?_
       rotate_left
       ·intro w'
        go_simp
        with_reducible rfl
       rotate_left
       ·simp only [Act.put, List.setIfInBounds_toArray, List.set_cons_zero, List.set_cons_succ, i64_w, i32_w]
        rfl
       refine pure_ (i := 7) (N := some 21) (v := ?_) (a' := ?_) #[true,true,true,true,true,false,true,true,false,false,false,false,false,false] rfl rfl (any_of HT_.out (by kernel_rfl)) (fun _ _ _ h => h) (Or.inl ⟨by rfl, ?_⟩) ?_ ?_
       rotate_left
       ·intro w'
        go_simp
        with_reducible rfl
       rotate_left
       ·simp only [Act.put, List.setIfInBounds_toArray, List.set_cons_zero, List.set_cons_succ, i64_w, i32_w]
        rfl
       refine pure_ (i := 8) (N := some 22) (v := ?_) (a' := ?_) #[true,true,true,true,true,false,true,true,true,false,false,false,false,false] rfl rfl (any_of HT_.out (by kernel_rfl)) (fun _ _ _ h => h) (Or.inl ⟨by rfl, ?_⟩) ?_ ?_
       rotate_left
       ·intro w'
        go_simp
        with_reducible rfl
       rotate_left
       ·simp only [Act.put, List.setIfInBounds_toArray, List.set_cons_zero, List.set_cons_succ, i64_w, i32_w]
        rfl
       refine take_ (i := 5) (N := some 19) (v := ?_) (a' := ?_) #[true,true,true,true,true,true,true,true,true,false,false,false,false,false] rfl rfl (take_ofW HT_.out HW_.out (by kernel_rfl)) (fun _ _ _ h => h) (Or.inl ⟨by rfl, ?_⟩) hHeld ?_ ?_
       rotate_left
       ·rintro w' ⟨s0, s1, s2, s3⟩
        go_simp
        with_reducible rfl
       rotate_left
       ·simp only [Act.put, List.setIfInBounds_toArray, List.set_cons_zero, List.set_cons_succ, i64_w, i32_w]
        rfl
       refine take_ (i := 9) (N := some 23) (v := ?_) (a' := ?_) #[true,true,true,true,true,true,true,true,true,true,false,false,false,false] rfl rfl (take_ofW HT_.out HW_.out (by kernel_rfl)) (fun _ _ _ h => h) (Or.inl ⟨by rfl, ?_⟩) hHeld ?_ ?_
       rotate_left
       ·rintro w' ⟨s0, s1, s2, s3⟩
        go_simp
        with_reducible rfl
       rotate_left
       ·simp only [Act.put, List.setIfInBounds_toArray, List.set_cons_zero, List.set_cons_succ, i64_w, i32_w]
        rfl
       refine one_ (i := 10) (N := some 24) #[true,true,true,true,true,true,true,true,true,true,true,false,false,false] rfl rfl (one_of HT_.out (by kernel_rfl)) (by decide) (fun K hK => ?_)
       refine goes_ Try.func119 (by kernel_rfl) rfl #[.agg #[.int .i64 a0_0, .slice A0_1 l0_1.length c0_1], .agg #[.slice A196_0 ((rd_T71 x7_1 x8_1).f0).length c196_0, .slice A196_1 ((rd_T71 x7_1 x8_1).f1).length c196_1]] (by rfl) rfl rfl mM ?_
       with_reducible refine (spec_l8Next.calls k1 a0_0 _ _ l0_1 _ _ ((rd_T71 x7_1 x8_1).f0) _ _ ((rd_T71 x7_1 x8_1).f1) t197 _ ?side1 ?side2 ?side3 ?side4 ?side5 ?side6 A15.out).mono ?_
       (case side1 => exact cP (Kd.C_below HR0_1.out HB.out))
       (case side2 => exact HC0_1.out)
       (case side3 => exact cP (by repeat (first | (with_reducible exact HR196_0.out) | (with_reducible refine Kd.C_alloc ?_ _) | (with_reducible refine Kd.C_drewN ?_ _) | (with_reducible refine Kd.C_drew ?_) | exact HR196_0.out)))
       (case side4 => exact HC196_0.out)
       (case side5 => exact cP (by repeat (first | (with_reducible exact HR196_1.out) | (with_reducible refine Kd.C_alloc ?_ _) | (with_reducible refine Kd.C_drewN ?_ _) | (with_reducible refine Kd.C_drew ?_) | exact HR196_1.out)))
       (case side6 => exact HC196_1.out)
       rintro e w18 ⟨v198, rfl, ho0, hb⟩
       have HS2_ := (hb.cell (World.block_lt_of_cell? _ _ (hHeld.2.2.1))).trans (hHeld.2.2.1)
       have HS3_ := (hb.cell (World.block_lt_of_cell? _ _ (hHeld.2.2.2))).trans (hHeld.2.2.2)
       refine ⟨_, rfl, ?_⟩
       have n0_ := Aside0.mk (Kd.N_elder' (by (with_reducible repeat (first | apply Kd.N_alloc | apply Kd.N_drewN | apply Kd.N_drew));exact HO_7.out) (Kd.R_base ho0) hb)
       have n1_ := Aside0.mk (Kd.V_elder' (by (with_reducible repeat (first | apply Kd.V_alloc | apply Kd.V_drewN | apply Kd.V_drew));exact HL196_0.out) (Kd.R_base ho0) hb)
       have n2_ := Aside0.mk (Kd.V_elder' (by (with_reducible repeat (first | apply Kd.V_alloc | apply Kd.V_drewN | apply Kd.V_drew));exact HL196_1.out) (Kd.R_base ho0) hb)
       have n3_ := Aside0.mk (Kd.R_lower (Kd.R_newM (M := fun k_ => (w.heap.size ≤ k_)) ho0 (below_size (by exact bB)) (fun k_ h_ => h_)) (below_size (by exact bB)))
       have n4_ := Aside0.mk (blk_below (g := gb189) (o := .cells #[.int .i64 a0_0, .slice A0_1 l0_1.length c0_1] 31 (0, 0)) (by exact kP BK189.out) hb)
       have n5_ := Aside0.mk (Kd.C_below (by repeat (first | (with_reducible exact HR196_0.out) | (with_reducible refine Kd.C_alloc ?_ _) | (with_reducible refine Kd.C_drewN ?_ _) | (with_reducible refine Kd.C_drew ?_) | exact HR196_0.out)) hb)
       have n6_ := Aside0.mk (Kd.C_below (by repeat (first | (with_reducible exact HR196_1.out) | (with_reducible refine Kd.C_alloc ?_ _) | (with_reducible refine Kd.C_drewN ?_ _) | (with_reducible refine Kd.C_drew ?_) | exact HR196_1.out)) hb)
       have n7_ := Aside0.mk (below_step (by exact bB) hb)
       clear HO_7
       clear HL196_0
       clear HL196_1
       clear BK189
       clear HR196_0
       clear HR196_1
       clear HB
       have HO_7 := n0_
       have HL196_0 := n1_
       have HL196_1 := n2_
       have HO199 := n3_
       have BK189 := n4_
       have HR196_0 := n5_
       have HR196_1 := n6_
       have HB := n7_
       clear n0_ n1_ n2_ n3_ n4_ n5_ n6_ n7_
       (try clear hb)
       (try clear hb2)
       (try clear hk)
       (try clear hi)
       (try clear ho0)
       obtain ⟨Ao19, co19, eo19⟩ := Kd.R_slice HO199.out
       (first | subst eo19 | (injection eo19 with f1_ f2_ f3_;have f4_ := f1_.symm;have f5_ := f3_.symm;clear f1_ f2_ f3_;subst f4_;subst f5_))
       refine hK.out _ _ ⟨(blk_cell BK189.out 0).trans rfl, (blk_cell BK189.out 1).trans rfl, HS2_, HS3_⟩ (fun hHeld => ?_)
       clear hK K
       refine norm_ (a' := ?_) ?_ ?_
       rotate_left
       ·show Act.put _ (some 24) _ = _
        simp only [Act.put, List.setIfInBounds_toArray, List.set_cons_zero, List.set_cons_succ, i64_w, i32_w]
        rfl
       refine pure_ (i := 11) (N := some 25) (v := ?_) (a' := ?_) #[true,true,true,true,true,true,true,true,true,true,true,true,false,false] rfl rfl (any_of HT_.out (by kernel_rfl)) (fun _ _ _ h => h) (Or.inl ⟨by rfl, ?_⟩) ?_ ?_
       rotate_left
       ·intro w'
        go_simp
        with_reducible rfl
       rotate_left
       ·simp only [Act.put, List.setIfInBounds_toArray, List.set_cons_zero, List.set_cons_succ, i64_w, i32_w]
        rfl
       refine pure_ (i := 12) (N := some 26) (v := ?_) (a' := ?_) #[true,true,true,true,true,true,true,true,true,true,true,true,true,false] rfl rfl (any_of HT_.out (by kernel_rfl)) (fun _ _ _ h => h) (Or.inl ⟨by rfl, ?_⟩) ?_ ?_
       rotate_left
       ·intro w'
        go_simp
        with_reducible rfl
       rotate_left
       ·simp only [Act.put, List.setIfInBounds_toArray, List.set_cons_zero, List.set_cons_succ, i64_w, i32_w]
        rfl
       refine pure_ (i := 13) (N := some 27) (v := ?_) (a' := ?_) #[true,true,true,true,true,true,true,true,true,true,true,true,true,true] rfl rfl (any_of HT_.out (by kernel_rfl)) (fun _ _ _ h => h) (Or.inl ⟨by rfl, ?_⟩) ?_ ?_
       rotate_left
       ·intro w'
        go_simp
        with_reducible rfl
       rotate_left
       ·simp only [Act.put, List.setIfInBounds_toArray, List.set_cons_zero, List.set_cons_succ, i64_w, i32_w]
        rfl
       refine done_ (done_of HT_.out (by kernel_rfl)) ?_
       try go_wp2
       go_meet
       case rel => exact ⟨_, (decide ((t197.length : Int) > 0)), (by first | rfl | (simp;done) | (simp [*];done)), H', ⟨by have := HK1.out;first | omega | exact Nat.le_refl _⟩, ⟨by (with_reducible repeat (first | apply Kd.N_alloc | apply Kd.N_drewN | apply Kd.N_drew));exact Kd.N_mono HO_7.out (fun _ hk => ⟨hk.1.1, hk.1.2⟩)⟩, ⟨by exact kP BK189.out⟩, ⟨by exact bB⟩⟩
      ·rw [if_neg c14] at H
       exact absurd H (by simp)
     ·rw [if_neg c13] at H
      exact absurd H (by simp)
   case rest =>
    clear HC10
    try clear c1
    try clear p1
    try clear q1
    try clear hx1
    try clear c2
    try clear p2
    try clear c6
    try clear c11
    try clear c11b0
    try clear c13
    try clear c13b0
    try clear c14
    try clear c14b0
    try clear c19
    try clear p19
    try clear q19
    try clear hx19
    try clear hx196_0
    try clear hx196_1
    try clear p196
    try clear p2
    try clear q196
    obtain ⟨kq, x27_9, rfl, HA, HJ9, HO_7, BK189, HB⟩ := hcut
    cases kq with
    | zero => exact absurd HA.out (by simp [spec_l8Burn.j1])
    | succ kj9 =>
     have H := HA.out
     clear HA
     simp only [spec_l8Burn.j1] at H
     by_cases c20 : x27_9 = true
     ·subst c20
      have H1 : (if x8_1 < (l2.length : Int) then (if 0 ≤ x8_1 then (if x8_1 < (x7_1.length : Int) then ((spec_l8Round.f kj9 a0_0 l0_1 ((rd_T71 x7_1 x8_1).f0) ((rd_T71 x7_1 x8_1).f1) (rd_L2 l2 x8_1)).bind fun bt205 => (if x7_1.length < 2932031007402 then (spec_l8Burn.l0 kj9 l2 (x7_1 ++ [(⟨bt205.1, bt205.2⟩ : S71)]) (wrap64 (x8_1 + 1)) a0_0 l0_1) else (none))) else (none)) else (none)) else (if 0 ≤ x8_1 then (if x8_1 < (x7_1.length : Int) then ((spec_l8Round.f kj9 a0_0 l0_1 ((rd_T71 x7_1 x8_1).f0) ((rd_T71 x7_1 x8_1).f1) (([] : List Int))).bind fun bt215 => (if x7_1.length < 2932031007402 then (spec_l8Burn.l0 kj9 l2 (x7_1 ++ [(⟨bt215.1, bt215.2⟩ : S71)]) (wrap64 (x8_1 + 1)) a0_0 l0_1) else (none))) else (none)) else (none))) = some r := by rw [if_pos rfl] at H;exact H
      clear H
      have H := H1
      clear H1
      obtain ⟨y200, hy200⟩ : ∃ y_ : List Int, y_ = (([] : List Int)) := ⟨_, rfl⟩
      replace H : (if x8_1 < (l2.length : Int) then (if 0 ≤ x8_1 then (if x8_1 < (x7_1.length : Int) then ((spec_l8Round.f kj9 a0_0 l0_1 ((rd_T71 x7_1 x8_1).f0) ((rd_T71 x7_1 x8_1).f1) (rd_L2 l2 x8_1)).bind fun bt205 => (if x7_1.length < 2932031007402 then (spec_l8Burn.l0 kj9 l2 (x7_1 ++ [(⟨bt205.1, bt205.2⟩ : S71)]) (wrap64 (x8_1 + 1)) a0_0 l0_1) else (none))) else (none)) else (none)) else (if 0 ≤ x8_1 then (if x8_1 < (x7_1.length : Int) then ((spec_l8Round.f kj9 a0_0 l0_1 ((rd_T71 x7_1 x8_1).f0) ((rd_T71 x7_1 x8_1).f1) y200).bind fun bt215 => (if x7_1.length < 2932031007402 then (spec_l8Burn.l0 kj9 l2 (x7_1 ++ [(⟨bt215.1, bt215.2⟩ : S71)]) (wrap64 (x8_1 + 1)) a0_0 l0_1) else (none))) else (none)) else (none))) = some r := by first | (rw [hy200];with_reducible exact H) | (have H2_ := (Option.bind_some _ _).symm.trans H;rw [hy200];with_reducible exact H2_) | (have H2_ := (Option.bind_some _ _).symm.trans H;with_reducible exact H2_) | with_reducible exact H | (rw [hy200];exact H) | exact H
      have Ny200 := Aside0.mk hy200
      clear hy200
      by_cases c21 : x8_1 < (l2.length : Int)
      ·rw [if_pos c21] at H
       have c21b0 : decide (x8_1 < (l2.length : Int)) = true := decide_eq_true c21
       clear c21
       by_cases c22 : 0 ≤ x8_1
       ·rw [if_pos c22] at H
        have c22b0 : decide (0 ≤ x8_1) = true := decide_eq_true c22
        clear c22
        by_cases c23 : x8_1 < (x7_1.length : Int)
        ·rw [if_pos c23] at H
         have c23b0 : decide (x8_1 < (x7_1.length : Int)) = true := decide_eq_true c23
         clear c23
         replace H := Option.bind_eq_some_iff.mp H
         obtain ⟨⟨t205, t208⟩, A240, H⟩ := H
         replace H : (if x7_1.length < 2932031007402 then (spec_l8Burn.l0 kj9 l2 (x7_1 ++ [(⟨t205, t208⟩ : S71)]) (wrap64 (x8_1 + 1)) a0_0 l0_1) else (none)) = some r := H
         have A24 := Aside0.mk A240
         clear A240
         by_cases c25 : x7_1.length < 2932031007402
         ·rw [if_pos c25] at H
          have LMc25 := Aside0.mk c25
          clear c25
          obtain ⟨y211, hy211⟩ : ∃ y_ : List (S71), y_ = (x7_1 ++ [(⟨t205, t208⟩ : S71)]) := ⟨_, rfl⟩
          replace H : (spec_l8Burn.l0 kj9 l2 y211 (wrap64 (x8_1 + 1)) a0_0 l0_1) = some r := by first | (rw [hy211];with_reducible exact H) | (have H2_ := (Option.bind_some _ _).symm.trans H;rw [hy211];with_reducible exact H2_) | (have H2_ := (Option.bind_some _ _).symm.trans H;with_reducible exact H2_) | with_reducible exact H | (rw [hy211];exact H) | exact H
          have Ny211 := Aside0.mk hy211
          clear hy211
          have H' := Aside0.mk H
          clear H
          try go_wp2_with (first | ((with_reducible refine gate_dst (N := 30) rfl ?_);(try (refine gate_guard (by rfl) ?_;dsimp only));refine Kd.R_lit (Kd.int .i64) _ 3 ?hg (N := 30) ?hd (xs := ([] : List Int)) (inner := []) (ok := fun _ => True) (okp := fun _ => True) ?hr ?hp (fun _ hk => hk) trivial (Below.refl _ _) (Nat.le_refl _) (by simp) ?_;(case hd => rfl);(case hg => rfl);(case hr => first | (go_simp;done) | (go_simp;rfl));(case hp => exact (Reps.none _ _));intro v201 w26 ho27 hb hg_ hnew_;clear hg_ hnew_;(first | rw [← Ny200.out] at ho27 | (simp only [Int.reduceToNat] at ho27;rw [← Ny200.out] at ho27));have n0_ := Aside0.mk (Kd.N_elder' (by (with_reducible repeat (first | apply Kd.N_alloc | apply Kd.N_drewN | apply Kd.N_drew));exact HO_7.out) (Kd.R_base ho27) hb);have n1_ := Aside0.mk (Kd.R_lower (Kd.R_newM (M := fun k_ => (w.heap.size ≤ k_)) ho27 (below_size (by exact bB)) (fun k_ h_ => h_)) (below_size (by exact bB)));have n2_ := Aside0.mk (blk_below (g := gb189) (o := .cells #[.int .i64 a0_0, .slice A0_1 l0_1.length c0_1] 31 (0, 0)) (by exact kP BK189.out) hb);have n3_ := Aside0.mk (below_step (by exact bB) hb);clear HO_7;clear BK189;clear HB;have HO_7 := n0_;have HO202 := n1_;have BK189 := n2_;have HB := n3_;clear n0_ n1_ n2_ n3_;clear hb ho27;have p203 : 0 ≤ (x8_1 : Int) := oA;have q203 : x8_1 < (l2.length : Int) := oA;obtain ⟨ad203, A203_0, c203_0, e203, hx203_0, hl203_0, hi203_0⟩ := at_L2 HR2.out x8_1 p203 q203;cases e203;replace hx203_0 := (HB.out.cell (World.block_lt_of_cell? w _ hx203_0)).trans hx203_0;have HR203_0 := Aside0.mk hi203_0;have HC203_0 := Aside0.mk hl203_0;clear hi203_0 hl203_0;replace p203 := eq_true p203;replace q203 := eq_true q203))
          have n0_ := Aside0.mk (Kd.N_drew HO_7.out)
          have n1_ := Aside0.mk (Kd.R_drew HO202.out)
          have n2_ := Aside0.mk (blk_drew BK189.out)
          have n3_ := Aside0.mk (below_drew1 HB.out)
          clear HO_7
          clear HO202
          clear BK189
          clear HB
          have HO_7 := n0_
          have HO202 := n1_
          have BK189 := n2_
          have HB := n3_
          clear n0_ n1_ n2_ n3_
          obtain ⟨Ao29, co29, eo29⟩ := Kd.N_slice HO_7.out
          (first | subst eo29 | (injection eo29 with f1_ f2_ f3_;have f4_ := f1_.symm;have f5_ := f3_.symm;clear f1_ f2_ f3_;subst f4_;subst f5_))
          have p204 : 0 ≤ (x8_1 : Int) := oA
          have q204 : x8_1 < (x7_1.length : Int) := oA
          obtain ⟨ad204, A204_0, c204_0, A204_1, c204_1, e204, hx204_0, hx204_1, hl204_0, hi204_0, hl204_1, hi204_1⟩ := at_T71 (Kd.N_reads' HO_7.out).2.2 x8_1 p204 q204
          cases e204
          obtain ⟨ce204, hce204, hMe204, hcc204⟩ := Kd.N_get HO_7.out z71 x8_1 p204 (by first | exact q204 | exact oA | (have e_ := (Kd.N_reads' HO_7.out).1;omega))
          obtain ⟨ua204_0, uc204_0, ua204_1, uc204_1, rfl, ul204_0, ge204_0, ul204_1, ge204_1⟩ := k71_openF hMe204
          have hv204_0 := hcc204 0 _ rfl
          rw [Nat.add_zero] at hv204_0
          replace hv204_0 := Option.some.inj (hv204_0.symm.trans hx204_0)
          injection hv204_0 with hva_ hvn_ hvc_
          rw [hva_] at ge204_0
          rw [hvc_] at ul204_0
          have HL204_0 := Aside0.mk (show Kd.V (Kd.int .i64) 3 _ w.heap.size _ _ ((rd_T71 x7_1 x8_1).f0) from Kd.V_mk ul204_0 ge204_0)
          clear hva_ hvn_ hvc_ ge204_0 ul204_0
          have hv204_1 := hcc204 1 _ rfl
          rw [add_field _ _ 1 (by omega)] at hv204_1
          replace hv204_1 := Option.some.inj (hv204_1.symm.trans hx204_1)
          injection hv204_1 with hva_ hvn_ hvc_
          rw [hva_] at ge204_1
          rw [hvc_] at ul204_1
          have HL204_1 := Aside0.mk (show Kd.V (Kd.int .i64) 3 _ w.heap.size _ _ ((rd_T71 x7_1 x8_1).f1) from Kd.V_mk ul204_1 ge204_1)
          clear hva_ hvn_ hvc_ ge204_1 ul204_1
          clear hcc204 hce204
          have HR204_0 := Aside0.mk hi204_0
          have HC204_0 := Aside0.mk hl204_0
          clear hi204_0 hl204_0
          have HR204_1 := Aside0.mk hi204_1
          have HC204_1 := Aside0.mk hl204_1
          clear hi204_1 hl204_1
          replace p204 := eq_true p204
          replace q204 := eq_true q204
          refine start_ (n := 11) (S := fun w' => w'.cell? ⟨gb189, 0, none⟩ = some (.int .i64 a0_0) ∧ w'.cell? ⟨gb189, 1, none⟩ = some (.slice A0_1 l0_1.length c0_1) ∧ w'.cell? (ad204.add ((x8_1).toNat * 2)) = some (.slice A204_0 ((rd_T71 x7_1 x8_1).f0).length c204_0) ∧ w'.cell? ⟨(ad204.add ((x8_1).toNat * 2)).block, (ad204.add ((x8_1).toNat * 2)).off + 1, none⟩ = some (.slice A204_1 ((rd_T71 x7_1 x8_1).f1).length c204_1)) (ds := [8, 9]) #[false,false,false,false,false,false,false,false,false,false,false] (by kernel_rfl) rfl rfl ⟨(blk_cell BK189.out 0).trans rfl, (blk_cell BK189.out 1).trans rfl, hx204_0, hx204_1⟩ (fun hHeld => ?_);refine with_tabW spec_l8Burn.tab8 spec_l8Burn.bits8 (fun HT_ HW_ => ?_)
          generalize w26.drew = w28 at HO_7 HO202 BK189 HB HL204_0 HL204_1 HR204_0 HR204_1 hx204_0 hx204_1 hHeld ⊢
          refine pure_ (i := 0) (N := some 39) (v := ?_) (a' := ?_) #[true,false,false,false,false,false,false,false,false,false,false] rfl rfl (any_of HT_.out (by kernel_rfl)) (fun _ _ _ h => h) (Or.inl ⟨by rfl, ?_⟩) ?_ ?_
          rotate_left
          ·intro w'
           go_simp
           with_reducible rfl
          rotate_left
          ·simp only [Act.put, List.setIfInBounds_toArray, List.set_cons_zero, List.set_cons_succ, i64_w, i32_w]
           rfl
          refine pure_ (i := 2) (N := some 41) (v := ?_) (a' := ?_) #[true,false,true,false,false,false,false,false,false,false,false] rfl rfl (any_of HT_.out (by kernel_rfl)) (fun _ _ _ h => h) (Or.inl ⟨by rfl, ?_⟩) ?_ ?_
          rotate_left
          ·intro w'
           go_simp
           with_reducible rfl
          rotate_left
          ·simp only [Act.put, List.setIfInBounds_toArray, List.set_cons_zero, List.set_cons_succ, i64_w, i32_w]
           rfl
          refine pure_ (i := 3) (N := some 42) (v := ?_) (a' := ?_) #[true,false,true,true,false,false,false,false,false,false,false] rfl rfl (any_of HT_.out (by kernel_rfl)) (fun _ _ _ h => h) (Or.inl ⟨by rfl, ?_⟩) ?_ ?_
          rotate_left
          ·intro w'
           go_simp
           with_reducible rfl
          rotate_left
          ·simp only [Act.put, List.setIfInBounds_toArray, List.set_cons_zero, List.set_cons_succ, i64_w, i32_w]
           rfl
          refine pure_ (i := 4) (N := some 43) (v := ?_) (a' := ?_) #[true,false,true,true,true,false,false,false,false,false,false] rfl rfl (any_of HT_.out (by kernel_rfl)) (fun _ _ _ h => h) (Or.inl ⟨by rfl, ?_⟩) ?_ ?_
          rotate_left
          ·intro w'
           go_simp
           with_reducible rfl
          rotate_left
          ·simp only [Act.put, List.setIfInBounds_toArray, List.set_cons_zero, List.set_cons_succ, i64_w, i32_w]
           rfl
          refine pure_ (i := 6) (N := some 45) (v := ?_) (a' := ?_) #[true,false,true,true,true,false,true,false,false,false,false] rfl rfl (any_of HT_.out (by kernel_rfl)) (fun _ _ _ h => h) (Or.inl ⟨by rfl, ?_⟩) ?_ ?_
          rotate_left
          ·intro w'
           go_simp
           with_reducible rfl
          rotate_left
          ·simp only [Act.put, List.setIfInBounds_toArray, List.set_cons_zero, List.set_cons_succ, i64_w, i32_w]
           rfl
          refine take_ (i := 1) (N := some 40) (v := ?_) (a' := ?_) #[true,true,true,true,true,false,true,false,false,false,false] rfl rfl (take_ofW HT_.out HW_.out (by kernel_rfl)) (fun _ _ _ h => h) (Or.inl ⟨by rfl, ?_⟩) hHeld ?_ ?_
          rotate_left
          ·rintro w' ⟨s0, s1, s2, s3⟩
           go_simp
           with_reducible rfl
          rotate_left
          ·simp only [Act.put, List.setIfInBounds_toArray, List.set_cons_zero, List.set_cons_succ, i64_w, i32_w]
           rfl
          refine take_ (i := 5) (N := some 44) (v := ?_) (a' := ?_) #[true,true,true,true,true,true,true,false,false,false,false] rfl rfl (take_ofW HT_.out HW_.out (by kernel_rfl)) (fun _ _ _ h => h) (Or.inl ⟨by rfl, ?_⟩) hHeld ?_ ?_
          rotate_left
          ·rintro w' ⟨s0, s1, s2, s3⟩
           go_simp
           with_reducible rfl
          rotate_left
          ·simp only [Act.put, List.setIfInBounds_toArray, List.set_cons_zero, List.set_cons_succ, i64_w, i32_w]
           rfl
          refine one_ (i := 7) (N := some 46) #[true,true,true,true,true,true,true,true,false,false,false] rfl rfl (one_of HT_.out (by kernel_rfl)) (by decide) (fun K hK => ?_)
          refine goes_ Try.func118 (by kernel_rfl) rfl #[.agg #[.int .i64 a0_0, .slice A0_1 l0_1.length c0_1], .agg #[.slice A204_0 ((rd_T71 x7_1 x8_1).f0).length c204_0, .slice A204_1 ((rd_T71 x7_1 x8_1).f1).length c204_1], .slice A203_0 (rd_L2 l2 x8_1).length c203_0] (by rfl) rfl rfl mM ?_
          with_reducible refine (spec_l8Round.calls kj9 a0_0 _ _ l0_1 _ _ ((rd_T71 x7_1 x8_1).f0) _ _ ((rd_T71 x7_1 x8_1).f1) _ _ (rd_L2 l2 x8_1) t205 t208 _ ?side1 ?side2 ?side3 ?side4 ?side5 ?side6 ?side7 ?side8 A24.out).mono ?_
          (case side1 => exact cP (Kd.C_below HR0_1.out HB.out))
          (case side2 => exact HC0_1.out)
          (case side3 => exact cP (by repeat (first | (with_reducible exact HR204_0.out) | (with_reducible refine Kd.C_alloc ?_ _) | (with_reducible refine Kd.C_drewN ?_ _) | (with_reducible refine Kd.C_drew ?_) | exact HR204_0.out)))
          (case side4 => exact HC204_0.out)
          (case side5 => exact cP (by repeat (first | (with_reducible exact HR204_1.out) | (with_reducible refine Kd.C_alloc ?_ _) | (with_reducible refine Kd.C_drewN ?_ _) | (with_reducible refine Kd.C_drew ?_) | exact HR204_1.out)))
          (case side6 => exact HC204_1.out)
          (case side7 => exact cP (Kd.C_below HR203_0.out HB.out))
          (case side8 => exact HC203_0.out)
          rintro e w30 ⟨v206, v209, rfl, ho0, ho1, hb⟩
          have HS2_ := (hb.cell (World.block_lt_of_cell? _ _ (hHeld.2.2.1))).trans (hHeld.2.2.1)
          have HS3_ := (hb.cell (World.block_lt_of_cell? _ _ (hHeld.2.2.2))).trans (hHeld.2.2.2)
          refine ⟨_, rfl, ?_⟩
          have n0_ := Aside0.mk (Kd.N_mono (Kd.N_told (Kd.N_told (Kd.N_old (by (with_reducible repeat (first | apply Kd.N_alloc | apply Kd.N_drewN | apply Kd.N_drew));exact HO_7.out) hb) (Kd.R_base ho0)) (Kd.R_base ho1)) (fun _ h_ => h_.1))
          have n1_ := Aside0.mk (Kd.R_mono (Kd.R_told (Kd.R_told (Kd.R_old (by exact rP HO202.out) hb) (Kd.R_base ho0)) (Kd.R_base ho1)) (fun _ h_ => h_.1))
          have n2_ := Aside0.mk (Kd.V_mono (Kd.V_told (Kd.V_told (Kd.V_old (by (with_reducible repeat (first | apply Kd.V_alloc | apply Kd.V_drewN | apply Kd.V_drew));exact HL204_0.out) hb) (Kd.R_base ho0)) (Kd.R_base ho1)) (fun _ h_ => h_.1))
          have n3_ := Aside0.mk (Kd.V_mono (Kd.V_told (Kd.V_told (Kd.V_old (by (with_reducible repeat (first | apply Kd.V_alloc | apply Kd.V_drewN | apply Kd.V_drew));exact HL204_1.out) hb) (Kd.R_base ho0)) (Kd.R_base ho1)) (fun _ h_ => h_.1))
          have n4_ := Aside0.mk (Kd.R_lower (Kd.R_new' (Kd.R_newM (M := fun k_ => (w.heap.size ≤ k_)) ho0 (below_size (by exact bB)) (fun k_ h_ => h_)) (Kd.R_lt (by exact rP HO202.out))) (below_size (by exact bB)))
          have n5_ := Aside0.mk (Kd.R_lower (Kd.R_new' (Kd.R_newM (M := fun k_ => (w.heap.size ≤ k_)) ho1 (below_size (by exact bB)) (fun k_ h_ => h_)) (Kd.R_lt (by exact rP HO202.out))) (below_size (by exact bB)))
          have n6_ := Aside0.mk (blk_below (g := gb189) (o := .cells #[.int .i64 a0_0, .slice A0_1 l0_1.length c0_1] 31 (0, 0)) (by exact kP BK189.out) hb)
          have n7_ := Aside0.mk (Kd.C_below (by repeat (first | (with_reducible exact HR204_0.out) | (with_reducible refine Kd.C_alloc ?_ _) | (with_reducible refine Kd.C_drewN ?_ _) | (with_reducible refine Kd.C_drew ?_) | exact HR204_0.out)) hb)
          have n8_ := Aside0.mk (Kd.C_below (by repeat (first | (with_reducible exact HR204_1.out) | (with_reducible refine Kd.C_alloc ?_ _) | (with_reducible refine Kd.C_drewN ?_ _) | (with_reducible refine Kd.C_drew ?_) | exact HR204_1.out)) hb)
          have n9_ := Aside0.mk (below_step (by exact bB) hb)
          clear HO_7
          clear HO202
          clear HL204_0
          clear HL204_1
          clear BK189
          clear HR204_0
          clear HR204_1
          clear HB
          have HO_7 := n0_
          have HO202 := n1_
          have HL204_0 := n2_
          have HL204_1 := n3_
          have HO207 := n4_
          have HO210 := n5_
          have BK189 := n6_
          have HR204_0 := n7_
          have HR204_1 := n8_
          have HB := n9_
          clear n0_ n1_ n2_ n3_ n4_ n5_ n6_ n7_ n8_ n9_
          (try clear hb)
          (try clear hb2)
          (try clear hk)
          (try clear hi)
          (try clear ho0)
          (try clear ho1)
          obtain ⟨Ao32, co32, eo32⟩ := Kd.R_slice HO207.out
          (first | subst eo32 | (injection eo32 with f1_ f2_ f3_;have f4_ := f1_.symm;have f5_ := f3_.symm;clear f1_ f2_ f3_;subst f4_;subst f5_))
          obtain ⟨Ao33, co33, eo33⟩ := Kd.R_slice HO210.out
          (first | subst eo33 | (injection eo33 with f1_ f2_ f3_;have f4_ := f1_.symm;have f5_ := f3_.symm;clear f1_ f2_ f3_;subst f4_;subst f5_))
          refine hK.out _ _ ⟨(blk_cell BK189.out 0).trans rfl, (blk_cell BK189.out 1).trans rfl, HS2_, HS3_⟩ (fun hHeld => ?_)
          clear hK K
          refine norm_ (a' := ?_) ?_ ?_
          rotate_left
          ·show Act.put _ (some 46) _ = _
           simp only [Act.put, List.setIfInBounds_toArray, List.set_cons_zero, List.set_cons_succ, i64_w, i32_w]
           rfl
          refine last_ (i := 8) (N := some 47) #[true,true,true,true,true,true,true,true,true,false,false] rfl rfl (one_of HT_.out (by kernel_rfl)) (by decide) (fun K hK => ?_)
          refine value_ (w1 := ?_) (v := ?_) (by rfl) rfl ?_ ?_
          rotate_left 2
          ·go_simp
           constructor
           ·rfl
           ·rfl
          refine hK.out _ _ ?_
          clear hK K
          refine norm_ (a' := ?_) ?_ ?_
          rotate_left
          ·show Act.put _ (some 47) _ = _
           simp only [Act.put, List.setIfInBounds_toArray, List.set_cons_zero, List.set_cons_succ, i64_w, i32_w]
           rfl
          refine last_ (i := 9) (N := some 48) #[true,true,true,true,true,true,true,true,true,true,false] rfl rfl (one_of HT_.out (by kernel_rfl)) (by decide) (fun K hK => ?_)
          refine Kd.N_append_step k71 (w0 := w) w.heap.size (by rfl) (.tmp 39) (.tmp 47) 68 71 (.agg #[(.slice none 0 0), (.slice none 0 0)]) 48 rfl Try.underlying68 info71 rfl (by decide) (by omega) (.slice (some ad204) x7_1.length co29) x7_1 (⟨t205, t208⟩ : S71) [.slice Ao32 t205.length co32, .slice Ao33 t208.length co33] (fun k_ => (w.heap.size ≤ k_) ∧ some k_ ≠ (v201 : Value).ownBlock ∧ k_ ≠ gb189) (fun k_ => ((fun k_ => (w.heap.size ≤ k_) ∧ some k_ ≠ (v201 : Value).ownBlock ∧ k_ ≠ gb189)) k_ ∧ some k_ ≠ (.slice (some ad204) x7_1.length co29 : Value).ownBlock) rfl rfl ?aP (fun _ hk => hk) ?aF ?aO ?aB ?aS ?aL ?_
          (case aP => exact (k71_mkF _ _ (⟨t205, t208⟩ : S71) (Kd.R_reads' (Kd.R_mono (ok' := (fun k_ => ((fun k_ => (w.heap.size ≤ k_) ∧ some k_ ≠ (v201 : Value).ownBlock ∧ k_ ≠ gb189)) k_ ∧ some k_ ≠ (.slice (some ad204) x7_1.length co29 : Value).ownBlock)) (Kd.R_types (Kd.R_apart' (HO207.out) (Kd.N_typed HO_7.out) (by decide)) BK189.out (by decide)) (fun k_ hk => ⟨⟨hk.1.1.1.1, ⟨hk.1.1.2, hk.2⟩⟩, hk.1.2⟩))).2.1 (Kd.R_F (Kd.R_mono (ok' := (fun k_ => ((fun k_ => (w.heap.size ≤ k_) ∧ some k_ ≠ (v201 : Value).ownBlock ∧ k_ ≠ gb189)) k_ ∧ some k_ ≠ (.slice (some ad204) x7_1.length co29 : Value).ownBlock)) (Kd.R_types (Kd.R_apart' (HO207.out) (Kd.N_typed HO_7.out) (by decide)) BK189.out (by decide)) (fun k_ hk => ⟨⟨hk.1.1.1.1, ⟨hk.1.1.2, hk.2⟩⟩, hk.1.2⟩))) (Kd.R_reads' (Kd.R_mono (ok' := (fun k_ => ((fun k_ => (w.heap.size ≤ k_) ∧ some k_ ≠ (v201 : Value).ownBlock ∧ k_ ≠ gb189)) k_ ∧ some k_ ≠ (.slice (some ad204) x7_1.length co29 : Value).ownBlock)) (Kd.R_types (Kd.R_apart' (HO210.out) (Kd.N_typed HO_7.out) (by decide)) BK189.out (by decide)) (fun k_ hk => ⟨⟨hk.1.1.1.1, ⟨hk.1.1.2, hk.2⟩⟩, hk.1.2⟩))).2.1 (Kd.R_F (Kd.R_mono (ok' := (fun k_ => ((fun k_ => (w.heap.size ≤ k_) ∧ some k_ ≠ (v201 : Value).ownBlock ∧ k_ ≠ gb189)) k_ ∧ some k_ ≠ (.slice (some ad204) x7_1.length co29 : Value).ownBlock)) (Kd.R_types (Kd.R_apart' (HO210.out) (Kd.N_typed HO_7.out) (by decide)) BK189.out (by decide)) (fun k_ hk => ⟨⟨hk.1.1.1.1, ⟨hk.1.1.2, hk.2⟩⟩, hk.1.2⟩)))))
          (case aB => exact (by exact bB))
          (case aF => exact (fun k_ hk => ⟨(Nat.le_trans (below_size (by exact bB)) hk), Kd.fresh' (Kd.R_lt (by exact rP HO202.out)) k_ hk, Kd.freshB (g := gb189) (o := .cells #[.int .i64 a0_0, .slice A0_1 l0_1.length c0_1] 31 (0, 0)) (by exact kP BK189.out) k_ hk⟩))
          (case aO => exact (by (with_reducible repeat (first | apply Kd.N_alloc | apply Kd.N_drewN | apply Kd.N_drew));exact Kd.N_mono HO_7.out (fun _ hk => ⟨hk.1.1.1.1, ⟨hk.1.1.2, hk.1.1.1.2⟩⟩)))
          (case aS => exact (below_size (by exact bB)))
          (case aL => have := LMc25.out;omega)
          intro v212 w31 ho hb hg hat
          rw [← Ny211.out] at ho
          have n0_ := Aside0.mk (blk_grown (g := gb189) (o := .cells #[.int .i64 a0_0, .slice A0_1 l0_1.length c0_1] 31 (0, 0)) (by exact kP BK189.out) hg (Kd.N_ne HO_7.out BK189.out (by decide)))
          have n1_ := Aside0.mk (Kd.R_over' (by exact rP HO202.out) (Kd.N_typed (by (with_reducible repeat (first | apply Kd.N_alloc | apply Kd.N_drewN | apply Kd.N_drew));exact HO_7.out)) (by decide) hg)
          have n2_ := Aside0.mk (Kd.V_afterv (ok := (fun k_ => (w.heap.size ≤ k_) ∧ some k_ ≠ (v201 : Value).ownBlock ∧ some k_ ≠ (.slice Ao32 t205.length co32 : Value).ownBlock ∧ some k_ ≠ (.slice Ao33 t208.length co33 : Value).ownBlock ∧ k_ ≠ gb189)) (by (with_reducible repeat (first | apply Kd.V_alloc | apply Kd.V_drewN | apply Kd.V_drew));exact Kd.V_mono HL204_0.out (fun _ hk => ⟨⟨hk.1.1.1.1.1, ⟨hk.1.1.1.2, ⟨hk.1.2, ⟨hk.2, hk.1.1.1.1.2⟩⟩⟩⟩, hk.1.1.2⟩)) hg hat)
          have n3_ := Aside0.mk (Kd.V_afterv (ok := (fun k_ => (w.heap.size ≤ k_) ∧ some k_ ≠ (v201 : Value).ownBlock ∧ some k_ ≠ (.slice Ao32 t205.length co32 : Value).ownBlock ∧ some k_ ≠ (.slice Ao33 t208.length co33 : Value).ownBlock ∧ k_ ≠ gb189)) (by (with_reducible repeat (first | apply Kd.V_alloc | apply Kd.V_drewN | apply Kd.V_drew));exact Kd.V_mono HL204_1.out (fun _ hk => ⟨⟨hk.1.1.1.1.1, ⟨hk.1.1.1.2, ⟨hk.1.2, ⟨hk.2, hk.1.1.1.1.2⟩⟩⟩⟩, hk.1.1.2⟩)) hg hat)
          have n4_ := Aside0.mk (hb)
          have n5_ := Aside0.mk (ho)
          clear BK189
          clear HO202
          clear HL204_0
          clear HL204_1
          clear HB
          clear HO_7
          clear HO207
          clear HO210
          have BK189 := n0_
          have HO202 := n1_
          have HL204_0 := n2_
          have HL204_1 := n3_
          have HB := n4_
          have HO213 := n5_
          clear n0_ n1_ n2_ n3_ n4_ n5_
          clear ho hb hg hat
          refine hK.out _ _ ?_
          clear hK K
          refine norm_ (a' := ?_) ?_ ?_
          rotate_left
          ·show Act.put _ (some 48) _ = _
           simp only [Act.put, List.setIfInBounds_toArray, List.set_cons_zero, List.set_cons_succ, i64_w, i32_w]
           rfl
          refine pure_ (i := 10) (N := some 7) (v := ?_) (a' := ?_) #[true,true,true,true,true,true,true,true,true,true,true] rfl rfl (any_of HT_.out (by kernel_rfl)) (fun _ _ _ h => h) (Or.inl ⟨by rfl, ?_⟩) ?_ ?_
          rotate_left
          ·intro w'
           go_simp
           with_reducible rfl
          rotate_left
          ·simp only [Act.put, List.setIfInBounds_toArray, List.set_cons_zero, List.set_cons_succ, i64_w, i32_w]
           rfl
          refine done_ (done_of HT_.out (by kernel_rfl)) ?_
          try go_wp2
          go_roundg kj9
          case measure => have := HK1.out;have := HJ9.out;omega
          case rel => exact ⟨(y211), (wrap64 (x8_1 + 1)), (by first | rfl | (simp;done) | (simp [*];done)), H', ⟨by have := HK1.out;have := HJ9.out;omega⟩, ⟨by (with_reducible repeat (first | apply Kd.N_alloc | apply Kd.N_drewN | apply Kd.N_drew));exact Kd.N_mono HO213.out (fun _ hk => ⟨hk.1, hk.2.2⟩)⟩, ⟨by exact kP BK189.out⟩, ⟨by exact bB⟩⟩
         ·rw [if_neg c25] at H
          exact absurd H (by simp)
        ·rw [if_neg c23] at H
         exact absurd H (by simp)
       ·rw [if_neg c22] at H
        exact absurd H (by simp)
      ·rw [if_neg c21] at H
       have c21b0 : decide (x8_1 < (l2.length : Int)) = false := decide_eq_false c21
       clear c21
       by_cases c34 : 0 ≤ x8_1
       ·rw [if_pos c34] at H
        have c34b0 : decide (0 ≤ x8_1) = true := decide_eq_true c34
        clear c34
        by_cases c35 : x8_1 < (x7_1.length : Int)
        ·rw [if_pos c35] at H
         have c35b0 : decide (x8_1 < (x7_1.length : Int)) = true := decide_eq_true c35
         clear c35
         replace H := Option.bind_eq_some_iff.mp H
         obtain ⟨⟨t215, t218⟩, A360, H⟩ := H
         replace H : (if x7_1.length < 2932031007402 then (spec_l8Burn.l0 kj9 l2 (x7_1 ++ [(⟨t215, t218⟩ : S71)]) (wrap64 (x8_1 + 1)) a0_0 l0_1) else (none)) = some r := H
         have A36 := Aside0.mk A360
         clear A360
         by_cases c37 : x7_1.length < 2932031007402
         ·rw [if_pos c37] at H
          have LMc37 := Aside0.mk c37
          clear c37
          obtain ⟨y221, hy221⟩ : ∃ y_ : List (S71), y_ = (x7_1 ++ [(⟨t215, t218⟩ : S71)]) := ⟨_, rfl⟩
          replace H : (spec_l8Burn.l0 kj9 l2 y221 (wrap64 (x8_1 + 1)) a0_0 l0_1) = some r := by first | (rw [hy221];with_reducible exact H) | (have H2_ := (Option.bind_some _ _).symm.trans H;rw [hy221];with_reducible exact H2_) | (have H2_ := (Option.bind_some _ _).symm.trans H;with_reducible exact H2_) | with_reducible exact H | (rw [hy221];exact H) | exact H
          have Ny221 := Aside0.mk hy221
          clear hy221
          have H' := Aside0.mk H
          clear H
          try go_wp2_with (first | ((with_reducible refine gate_dst (N := 30) rfl ?_);(try (refine gate_guard (by rfl) ?_;dsimp only));refine Kd.R_lit (Kd.int .i64) _ 3 ?hg (N := 30) ?hd (xs := ([] : List Int)) (inner := []) (ok := fun _ => True) (okp := fun _ => True) ?hr ?hp (fun _ hk => hk) trivial (Below.refl _ _) (Nat.le_refl _) (by simp) ?_;(case hd => rfl);(case hg => rfl);(case hr => first | (go_simp;done) | (go_simp;rfl));(case hp => exact (Reps.none _ _));intro v201 w38 ho39 hb hg_ hnew_;clear hg_ hnew_;(first | rw [← Ny200.out] at ho39 | (simp only [Int.reduceToNat] at ho39;rw [← Ny200.out] at ho39));have n0_ := Aside0.mk (Kd.N_elder' (by (with_reducible repeat (first | apply Kd.N_alloc | apply Kd.N_drewN | apply Kd.N_drew));exact HO_7.out) (Kd.R_base ho39) hb);have n1_ := Aside0.mk (Kd.R_lower (Kd.R_newM (M := fun k_ => (w.heap.size ≤ k_)) ho39 (below_size (by exact bB)) (fun k_ h_ => h_)) (below_size (by exact bB)));have n2_ := Aside0.mk (blk_below (g := gb189) (o := .cells #[.int .i64 a0_0, .slice A0_1 l0_1.length c0_1] 31 (0, 0)) (by exact kP BK189.out) hb);have n3_ := Aside0.mk (below_step (by exact bB) hb);clear HO_7;clear BK189;clear HB;have HO_7 := n0_;have HO202 := n1_;have BK189 := n2_;have HB := n3_;clear n0_ n1_ n2_ n3_;clear hb ho39))
          have n0_ := Aside0.mk (Kd.N_drew HO_7.out)
          have n1_ := Aside0.mk (Kd.R_drew HO202.out)
          have n2_ := Aside0.mk (blk_drew BK189.out)
          have n3_ := Aside0.mk (below_drew1 HB.out)
          clear HO_7
          clear HO202
          clear BK189
          clear HB
          have HO_7 := n0_
          have HO202 := n1_
          have BK189 := n2_
          have HB := n3_
          clear n0_ n1_ n2_ n3_
          obtain ⟨Ao41, co41, eo41⟩ := Kd.N_slice HO_7.out
          (first | subst eo41 | (injection eo41 with f1_ f2_ f3_;have f4_ := f1_.symm;have f5_ := f3_.symm;clear f1_ f2_ f3_;subst f4_;subst f5_))
          have p214 : 0 ≤ (x8_1 : Int) := oA
          have q214 : x8_1 < (x7_1.length : Int) := oA
          obtain ⟨ad214, A214_0, c214_0, A214_1, c214_1, e214, hx214_0, hx214_1, hl214_0, hi214_0, hl214_1, hi214_1⟩ := at_T71 (Kd.N_reads' HO_7.out).2.2 x8_1 p214 q214
          cases e214
          obtain ⟨ce214, hce214, hMe214, hcc214⟩ := Kd.N_get HO_7.out z71 x8_1 p214 (by first | exact q214 | exact oA | (have e_ := (Kd.N_reads' HO_7.out).1;omega))
          obtain ⟨ua214_0, uc214_0, ua214_1, uc214_1, rfl, ul214_0, ge214_0, ul214_1, ge214_1⟩ := k71_openF hMe214
          have hv214_0 := hcc214 0 _ rfl
          rw [Nat.add_zero] at hv214_0
          replace hv214_0 := Option.some.inj (hv214_0.symm.trans hx214_0)
          injection hv214_0 with hva_ hvn_ hvc_
          rw [hva_] at ge214_0
          rw [hvc_] at ul214_0
          have HL214_0 := Aside0.mk (show Kd.V (Kd.int .i64) 3 _ w.heap.size _ _ ((rd_T71 x7_1 x8_1).f0) from Kd.V_mk ul214_0 ge214_0)
          clear hva_ hvn_ hvc_ ge214_0 ul214_0
          have hv214_1 := hcc214 1 _ rfl
          rw [add_field _ _ 1 (by omega)] at hv214_1
          replace hv214_1 := Option.some.inj (hv214_1.symm.trans hx214_1)
          injection hv214_1 with hva_ hvn_ hvc_
          rw [hva_] at ge214_1
          rw [hvc_] at ul214_1
          have HL214_1 := Aside0.mk (show Kd.V (Kd.int .i64) 3 _ w.heap.size _ _ ((rd_T71 x7_1 x8_1).f1) from Kd.V_mk ul214_1 ge214_1)
          clear hva_ hvn_ hvc_ ge214_1 ul214_1
          clear hcc214 hce214
          have HR214_0 := Aside0.mk hi214_0
          have HC214_0 := Aside0.mk hl214_0
          clear hi214_0 hl214_0
          have HR214_1 := Aside0.mk hi214_1
          have HC214_1 := Aside0.mk hl214_1
          clear hi214_1 hl214_1
          replace p214 := eq_true p214
          replace q214 := eq_true q214
          obtain ⟨Ao42, co42, eo42⟩ := Kd.R_slice HO202.out
          (first | subst eo42 | (injection eo42 with f1_ f2_ f3_;have f4_ := f1_.symm;have f5_ := f3_.symm;clear f1_ f2_ f3_;subst f4_;subst f5_))
          refine start_ (n := 11) (S := fun w' => w'.cell? ⟨gb189, 0, none⟩ = some (.int .i64 a0_0) ∧ w'.cell? ⟨gb189, 1, none⟩ = some (.slice A0_1 l0_1.length c0_1) ∧ w'.cell? (ad214.add ((x8_1).toNat * 2)) = some (.slice A214_0 ((rd_T71 x7_1 x8_1).f0).length c214_0) ∧ w'.cell? ⟨(ad214.add ((x8_1).toNat * 2)).block, (ad214.add ((x8_1).toNat * 2)).off + 1, none⟩ = some (.slice A214_1 ((rd_T71 x7_1 x8_1).f1).length c214_1)) (ds := [8, 9]) #[false,false,false,false,false,false,false,false,false,false,false] (by kernel_rfl) rfl rfl ⟨(blk_cell BK189.out 0).trans rfl, (blk_cell BK189.out 1).trans rfl, hx214_0, hx214_1⟩ (fun hHeld => ?_);refine with_tabW spec_l8Burn.tab8 spec_l8Burn.bits8 (fun HT_ HW_ => ?_)
          generalize w38.drew = w40 at HO_7 HO202 BK189 HB HL214_0 HL214_1 HR214_0 HR214_1 hx214_0 hx214_1 hHeld ⊢
          refine pure_ (i := 0) (N := some 39) (v := ?_) (a' := ?_) #[true,false,false,false,false,false,false,false,false,false,false] rfl rfl (any_of HT_.out (by kernel_rfl)) (fun _ _ _ h => h) (Or.inl ⟨by rfl, ?_⟩) ?_ ?_
          rotate_left
          ·intro w'
           go_simp
           with_reducible rfl
          rotate_left
          ·simp only [Act.put, List.setIfInBounds_toArray, List.set_cons_zero, List.set_cons_succ, i64_w, i32_w]
           rfl
          refine pure_ (i := 2) (N := some 41) (v := ?_) (a' := ?_) #[true,false,true,false,false,false,false,false,false,false,false] rfl rfl (any_of HT_.out (by kernel_rfl)) (fun _ _ _ h => h) (Or.inl ⟨by rfl, ?_⟩) ?_ ?_
          rotate_left
          ·intro w'
           go_simp
           with_reducible rfl
          rotate_left
          ·simp only [Act.put, List.setIfInBounds_toArray, List.set_cons_zero, List.set_cons_succ, i64_w, i32_w]
           rfl
          refine pure_ (i := 3) (N := some 42) (v := ?_) (a' := ?_) #[true,false,true,true,false,false,false,false,false,false,false] rfl rfl (any_of HT_.out (by kernel_rfl)) (fun _ _ _ h => h) (Or.inl ⟨by rfl, ?_⟩) ?_ ?_
          rotate_left
          ·intro w'
           go_simp
           with_reducible rfl
          rotate_left
          ·simp only [Act.put, List.setIfInBounds_toArray, List.set_cons_zero, List.set_cons_succ, i64_w, i32_w]
           rfl
          refine pure_ (i := 4) (N := some 43) (v := ?_) (a' := ?_) #[true,false,true,true,true,false,false,false,false,false,false] rfl rfl (any_of HT_.out (by kernel_rfl)) (fun _ _ _ h => h) (Or.inl ⟨by rfl, ?_⟩) ?_ ?_
          rotate_left
          ·intro w'
           go_simp
           with_reducible rfl
          rotate_left
          ·simp only [Act.put, List.setIfInBounds_toArray, List.set_cons_zero, List.set_cons_succ, i64_w, i32_w]
           rfl
          refine pure_ (i := 6) (N := some 45) (v := ?_) (a' := ?_) #[true,false,true,true,true,false,true,false,false,false,false] rfl rfl (any_of HT_.out (by kernel_rfl)) (fun _ _ _ h => h) (Or.inl ⟨by rfl, ?_⟩) ?_ ?_
          rotate_left
          ·intro w'
           go_simp
           with_reducible rfl
          rotate_left
          ·simp only [Act.put, List.setIfInBounds_toArray, List.set_cons_zero, List.set_cons_succ, i64_w, i32_w]
           rfl
          refine take_ (i := 1) (N := some 40) (v := ?_) (a' := ?_) #[true,true,true,true,true,false,true,false,false,false,false] rfl rfl (take_ofW HT_.out HW_.out (by kernel_rfl)) (fun _ _ _ h => h) (Or.inl ⟨by rfl, ?_⟩) hHeld ?_ ?_
          rotate_left
          ·rintro w' ⟨s0, s1, s2, s3⟩
           go_simp
           with_reducible rfl
          rotate_left
          ·simp only [Act.put, List.setIfInBounds_toArray, List.set_cons_zero, List.set_cons_succ, i64_w, i32_w]
           rfl
          refine take_ (i := 5) (N := some 44) (v := ?_) (a' := ?_) #[true,true,true,true,true,true,true,false,false,false,false] rfl rfl (take_ofW HT_.out HW_.out (by kernel_rfl)) (fun _ _ _ h => h) (Or.inl ⟨by rfl, ?_⟩) hHeld ?_ ?_
          rotate_left
          ·rintro w' ⟨s0, s1, s2, s3⟩
           go_simp
           with_reducible rfl
          rotate_left
          ·simp only [Act.put, List.setIfInBounds_toArray, List.set_cons_zero, List.set_cons_succ, i64_w, i32_w]
           rfl
          refine one_ (i := 7) (N := some 46) #[true,true,true,true,true,true,true,true,false,false,false] rfl rfl (one_of HT_.out (by kernel_rfl)) (by decide) (fun K hK => ?_)
          refine goes_ Try.func118 (by kernel_rfl) rfl #[.agg #[.int .i64 a0_0, .slice A0_1 l0_1.length c0_1], .agg #[.slice A214_0 ((rd_T71 x7_1 x8_1).f0).length c214_0, .slice A214_1 ((rd_T71 x7_1 x8_1).f1).length c214_1], .slice Ao42 y200.length co42] (by rfl) rfl rfl mM ?_
          with_reducible refine (spec_l8Round.calls kj9 a0_0 _ _ l0_1 _ _ ((rd_T71 x7_1 x8_1).f0) _ _ ((rd_T71 x7_1 x8_1).f1) _ _ y200 t215 t218 _ ?side1 ?side2 ?side3 ?side4 ?side5 ?side6 ?side7 ?side8 A36.out).mono ?_
          (case side1 => exact cP (Kd.C_below HR0_1.out HB.out))
          (case side2 => exact HC0_1.out)
          (case side3 => exact cP (by repeat (first | (with_reducible exact HR214_0.out) | (with_reducible refine Kd.C_alloc ?_ _) | (with_reducible refine Kd.C_drewN ?_ _) | (with_reducible refine Kd.C_drew ?_) | exact HR214_0.out)))
          (case side4 => exact HC214_0.out)
          (case side5 => exact cP (by repeat (first | (with_reducible exact HR214_1.out) | (with_reducible refine Kd.C_alloc ?_ _) | (with_reducible refine Kd.C_drewN ?_ _) | (with_reducible refine Kd.C_drew ?_) | exact HR214_1.out)))
          (case side6 => exact HC214_1.out)
          (case side7 => exact cP (Kd.R_reads' HO202.out).2.2)
          (case side8 => exact (Kd.R_reads' HO202.out).2.1)
          rintro e w43 ⟨v216, v219, rfl, ho0, ho1, hb⟩
          have HS2_ := (hb.cell (World.block_lt_of_cell? _ _ (hHeld.2.2.1))).trans (hHeld.2.2.1)
          have HS3_ := (hb.cell (World.block_lt_of_cell? _ _ (hHeld.2.2.2))).trans (hHeld.2.2.2)
          refine ⟨_, rfl, ?_⟩
          have n0_ := Aside0.mk (Kd.N_mono (Kd.N_told (Kd.N_told (Kd.N_old (by (with_reducible repeat (first | apply Kd.N_alloc | apply Kd.N_drewN | apply Kd.N_drew));exact HO_7.out) hb) (Kd.R_base ho0)) (Kd.R_base ho1)) (fun _ h_ => h_.1))
          have n1_ := Aside0.mk (Kd.R_mono (Kd.R_told (Kd.R_told (Kd.R_old (by exact rP HO202.out) hb) (Kd.R_base ho0)) (Kd.R_base ho1)) (fun _ h_ => h_.1))
          have n2_ := Aside0.mk (Kd.V_mono (Kd.V_told (Kd.V_told (Kd.V_old (by (with_reducible repeat (first | apply Kd.V_alloc | apply Kd.V_drewN | apply Kd.V_drew));exact HL214_0.out) hb) (Kd.R_base ho0)) (Kd.R_base ho1)) (fun _ h_ => h_.1))
          have n3_ := Aside0.mk (Kd.V_mono (Kd.V_told (Kd.V_told (Kd.V_old (by (with_reducible repeat (first | apply Kd.V_alloc | apply Kd.V_drewN | apply Kd.V_drew));exact HL214_1.out) hb) (Kd.R_base ho0)) (Kd.R_base ho1)) (fun _ h_ => h_.1))
          have n4_ := Aside0.mk (Kd.R_lower (Kd.R_new' (Kd.R_newM (M := fun k_ => (w.heap.size ≤ k_)) ho0 (below_size (by exact bB)) (fun k_ h_ => h_)) (Kd.R_lt (by exact rP HO202.out))) (below_size (by exact bB)))
          have n5_ := Aside0.mk (Kd.R_lower (Kd.R_new' (Kd.R_newM (M := fun k_ => (w.heap.size ≤ k_)) ho1 (below_size (by exact bB)) (fun k_ h_ => h_)) (Kd.R_lt (by exact rP HO202.out))) (below_size (by exact bB)))
          have n6_ := Aside0.mk (blk_below (g := gb189) (o := .cells #[.int .i64 a0_0, .slice A0_1 l0_1.length c0_1] 31 (0, 0)) (by exact kP BK189.out) hb)
          have n7_ := Aside0.mk (Kd.C_below (by repeat (first | (with_reducible exact HR214_0.out) | (with_reducible refine Kd.C_alloc ?_ _) | (with_reducible refine Kd.C_drewN ?_ _) | (with_reducible refine Kd.C_drew ?_) | exact HR214_0.out)) hb)
          have n8_ := Aside0.mk (Kd.C_below (by repeat (first | (with_reducible exact HR214_1.out) | (with_reducible refine Kd.C_alloc ?_ _) | (with_reducible refine Kd.C_drewN ?_ _) | (with_reducible refine Kd.C_drew ?_) | exact HR214_1.out)) hb)
          have n9_ := Aside0.mk (below_step (by exact bB) hb)
          clear HO_7
          clear HO202
          clear HL214_0
          clear HL214_1
          clear BK189
          clear HR214_0
          clear HR214_1
          clear HB
          have HO_7 := n0_
          have HO202 := n1_
          have HL214_0 := n2_
          have HL214_1 := n3_
          have HO217 := n4_
          have HO220 := n5_
          have BK189 := n6_
          have HR214_0 := n7_
          have HR214_1 := n8_
          have HB := n9_
          clear n0_ n1_ n2_ n3_ n4_ n5_ n6_ n7_ n8_ n9_
          (try clear hb)
          (try clear hb2)
          (try clear hk)
          (try clear hi)
          (try clear ho0)
          (try clear ho1)
          obtain ⟨Ao45, co45, eo45⟩ := Kd.R_slice HO217.out
          (first | subst eo45 | (injection eo45 with f1_ f2_ f3_;have f4_ := f1_.symm;have f5_ := f3_.symm;clear f1_ f2_ f3_;subst f4_;subst f5_))
          obtain ⟨Ao46, co46, eo46⟩ := Kd.R_slice HO220.out
          (first | subst eo46 | (injection eo46 with f1_ f2_ f3_;have f4_ := f1_.symm;have f5_ := f3_.symm;clear f1_ f2_ f3_;subst f4_;subst f5_))
          refine hK.out _ _ ⟨(blk_cell BK189.out 0).trans rfl, (blk_cell BK189.out 1).trans rfl, HS2_, HS3_⟩ (fun hHeld => ?_)
          clear hK K
          refine norm_ (a' := ?_) ?_ ?_
          rotate_left
          ·show Act.put _ (some 46) _ = _
           simp only [Act.put, List.setIfInBounds_toArray, List.set_cons_zero, List.set_cons_succ, i64_w, i32_w]
           rfl
          refine last_ (i := 8) (N := some 47) #[true,true,true,true,true,true,true,true,true,false,false] rfl rfl (one_of HT_.out (by kernel_rfl)) (by decide) (fun K hK => ?_)
          refine value_ (w1 := ?_) (v := ?_) (by rfl) rfl ?_ ?_
          rotate_left 2
          ·go_simp
           constructor
           ·rfl
           ·rfl
          refine hK.out _ _ ?_
          clear hK K
          refine norm_ (a' := ?_) ?_ ?_
          rotate_left
          ·show Act.put _ (some 47) _ = _
           simp only [Act.put, List.setIfInBounds_toArray, List.set_cons_zero, List.set_cons_succ, i64_w, i32_w]
           rfl
          refine last_ (i := 9) (N := some 48) #[true,true,true,true,true,true,true,true,true,true,false] rfl rfl (one_of HT_.out (by kernel_rfl)) (by decide) (fun K hK => ?_)
          refine Kd.N_append_step k71 (w0 := w) w.heap.size (by rfl) (.tmp 39) (.tmp 47) 68 71 (.agg #[(.slice none 0 0), (.slice none 0 0)]) 48 rfl Try.underlying68 info71 rfl (by decide) (by omega) (.slice (some ad214) x7_1.length co41) x7_1 (⟨t215, t218⟩ : S71) [.slice Ao45 t215.length co45, .slice Ao46 t218.length co46] (fun k_ => (w.heap.size ≤ k_) ∧ some k_ ≠ (.slice Ao42 y200.length co42 : Value).ownBlock ∧ k_ ≠ gb189) (fun k_ => ((fun k_ => (w.heap.size ≤ k_) ∧ some k_ ≠ (.slice Ao42 y200.length co42 : Value).ownBlock ∧ k_ ≠ gb189)) k_ ∧ some k_ ≠ (.slice (some ad214) x7_1.length co41 : Value).ownBlock) rfl rfl ?aP (fun _ hk => hk) ?aF ?aO ?aB ?aS ?aL ?_
          (case aP => exact (k71_mkF _ _ (⟨t215, t218⟩ : S71) (Kd.R_reads' (Kd.R_mono (ok' := (fun k_ => ((fun k_ => (w.heap.size ≤ k_) ∧ some k_ ≠ (.slice Ao42 y200.length co42 : Value).ownBlock ∧ k_ ≠ gb189)) k_ ∧ some k_ ≠ (.slice (some ad214) x7_1.length co41 : Value).ownBlock)) (Kd.R_types (Kd.R_apart' (HO217.out) (Kd.N_typed HO_7.out) (by decide)) BK189.out (by decide)) (fun k_ hk => ⟨⟨hk.1.1.1.1, ⟨hk.1.1.2, hk.2⟩⟩, hk.1.2⟩))).2.1 (Kd.R_F (Kd.R_mono (ok' := (fun k_ => ((fun k_ => (w.heap.size ≤ k_) ∧ some k_ ≠ (.slice Ao42 y200.length co42 : Value).ownBlock ∧ k_ ≠ gb189)) k_ ∧ some k_ ≠ (.slice (some ad214) x7_1.length co41 : Value).ownBlock)) (Kd.R_types (Kd.R_apart' (HO217.out) (Kd.N_typed HO_7.out) (by decide)) BK189.out (by decide)) (fun k_ hk => ⟨⟨hk.1.1.1.1, ⟨hk.1.1.2, hk.2⟩⟩, hk.1.2⟩))) (Kd.R_reads' (Kd.R_mono (ok' := (fun k_ => ((fun k_ => (w.heap.size ≤ k_) ∧ some k_ ≠ (.slice Ao42 y200.length co42 : Value).ownBlock ∧ k_ ≠ gb189)) k_ ∧ some k_ ≠ (.slice (some ad214) x7_1.length co41 : Value).ownBlock)) (Kd.R_types (Kd.R_apart' (HO220.out) (Kd.N_typed HO_7.out) (by decide)) BK189.out (by decide)) (fun k_ hk => ⟨⟨hk.1.1.1.1, ⟨hk.1.1.2, hk.2⟩⟩, hk.1.2⟩))).2.1 (Kd.R_F (Kd.R_mono (ok' := (fun k_ => ((fun k_ => (w.heap.size ≤ k_) ∧ some k_ ≠ (.slice Ao42 y200.length co42 : Value).ownBlock ∧ k_ ≠ gb189)) k_ ∧ some k_ ≠ (.slice (some ad214) x7_1.length co41 : Value).ownBlock)) (Kd.R_types (Kd.R_apart' (HO220.out) (Kd.N_typed HO_7.out) (by decide)) BK189.out (by decide)) (fun k_ hk => ⟨⟨hk.1.1.1.1, ⟨hk.1.1.2, hk.2⟩⟩, hk.1.2⟩)))))
          (case aB => exact (by exact bB))
          (case aF => exact (fun k_ hk => ⟨(Nat.le_trans (below_size (by exact bB)) hk), Kd.fresh' (Kd.R_lt (by exact rP HO202.out)) k_ hk, Kd.freshB (g := gb189) (o := .cells #[.int .i64 a0_0, .slice A0_1 l0_1.length c0_1] 31 (0, 0)) (by exact kP BK189.out) k_ hk⟩))
          (case aO => exact (by (with_reducible repeat (first | apply Kd.N_alloc | apply Kd.N_drewN | apply Kd.N_drew));exact Kd.N_mono HO_7.out (fun _ hk => ⟨hk.1.1.1.1, ⟨hk.1.1.2, hk.1.1.1.2⟩⟩)))
          (case aS => exact (below_size (by exact bB)))
          (case aL => have := LMc37.out;omega)
          intro v222 w44 ho hb hg hat
          rw [← Ny221.out] at ho
          have n0_ := Aside0.mk (blk_grown (g := gb189) (o := .cells #[.int .i64 a0_0, .slice A0_1 l0_1.length c0_1] 31 (0, 0)) (by exact kP BK189.out) hg (Kd.N_ne HO_7.out BK189.out (by decide)))
          have n1_ := Aside0.mk (Kd.R_over' (by exact rP HO202.out) (Kd.N_typed (by (with_reducible repeat (first | apply Kd.N_alloc | apply Kd.N_drewN | apply Kd.N_drew));exact HO_7.out)) (by decide) hg)
          have n2_ := Aside0.mk (Kd.V_afterv (ok := (fun k_ => (w.heap.size ≤ k_) ∧ some k_ ≠ (.slice Ao42 y200.length co42 : Value).ownBlock ∧ some k_ ≠ (.slice Ao45 t215.length co45 : Value).ownBlock ∧ some k_ ≠ (.slice Ao46 t218.length co46 : Value).ownBlock ∧ k_ ≠ gb189)) (by (with_reducible repeat (first | apply Kd.V_alloc | apply Kd.V_drewN | apply Kd.V_drew));exact Kd.V_mono HL214_0.out (fun _ hk => ⟨⟨hk.1.1.1.1.1, ⟨hk.1.1.1.2, ⟨hk.1.2, ⟨hk.2, hk.1.1.1.1.2⟩⟩⟩⟩, hk.1.1.2⟩)) hg hat)
          have n3_ := Aside0.mk (Kd.V_afterv (ok := (fun k_ => (w.heap.size ≤ k_) ∧ some k_ ≠ (.slice Ao42 y200.length co42 : Value).ownBlock ∧ some k_ ≠ (.slice Ao45 t215.length co45 : Value).ownBlock ∧ some k_ ≠ (.slice Ao46 t218.length co46 : Value).ownBlock ∧ k_ ≠ gb189)) (by (with_reducible repeat (first | apply Kd.V_alloc | apply Kd.V_drewN | apply Kd.V_drew));exact Kd.V_mono HL214_1.out (fun _ hk => ⟨⟨hk.1.1.1.1.1, ⟨hk.1.1.1.2, ⟨hk.1.2, ⟨hk.2, hk.1.1.1.1.2⟩⟩⟩⟩, hk.1.1.2⟩)) hg hat)
          have n4_ := Aside0.mk (hb)
          have n5_ := Aside0.mk (ho)
          clear BK189
          clear HO202
          clear HL214_0
          clear HL214_1
          clear HB
          clear HO_7
          clear HO217
          clear HO220
          have BK189 := n0_
          have HO202 := n1_
          have HL214_0 := n2_
          have HL214_1 := n3_
          have HB := n4_
          have HO223 := n5_
          clear n0_ n1_ n2_ n3_ n4_ n5_
          clear ho hb hg hat
          refine hK.out _ _ ?_
          clear hK K
          refine norm_ (a' := ?_) ?_ ?_
          rotate_left
          ·show Act.put _ (some 48) _ = _
           simp only [Act.put, List.setIfInBounds_toArray, List.set_cons_zero, List.set_cons_succ, i64_w, i32_w]
           rfl
          refine pure_ (i := 10) (N := some 7) (v := ?_) (a' := ?_) #[true,true,true,true,true,true,true,true,true,true,true] rfl rfl (any_of HT_.out (by kernel_rfl)) (fun _ _ _ h => h) (Or.inl ⟨by rfl, ?_⟩) ?_ ?_
          rotate_left
          ·intro w'
           go_simp
           with_reducible rfl
          rotate_left
          ·simp only [Act.put, List.setIfInBounds_toArray, List.set_cons_zero, List.set_cons_succ, i64_w, i32_w]
           rfl
          refine done_ (done_of HT_.out (by kernel_rfl)) ?_
          try go_wp2
          go_roundg kj9
          case measure => have := HK1.out;have := HJ9.out;omega
          case rel => exact ⟨(y221), (wrap64 (x8_1 + 1)), (by first | rfl | (simp;done) | (simp [*];done)), H', ⟨by have := HK1.out;have := HJ9.out;omega⟩, ⟨by (with_reducible repeat (first | apply Kd.N_alloc | apply Kd.N_drewN | apply Kd.N_drew));exact Kd.N_mono HO223.out (fun _ hk => ⟨hk.1, hk.2.2⟩)⟩, ⟨by exact kP BK189.out⟩, ⟨by exact bB⟩⟩
         ·rw [if_neg c37] at H
          exact absurd H (by simp)
        ·rw [if_neg c35] at H
         exact absurd H (by simp)
       ·rw [if_neg c34] at H
        exact absurd H (by simp)
     ·replace c20 := Bool.eq_false_iff.mpr c20
      subst c20
      have H1 : (some x7_1) = some r := by rw [if_neg (show ¬ (false = true) by decide)] at H;exact H
      clear H
      have H := H1
      clear H1
      obtain rfl := Option.some.inj H
      go_wp2
      go_ret
      exact ⟨_, by first | rfl | (simp [errW_none, errW_some] <;> rfl) | (simp [*, errW_none, errW_some] <;> rfl), by (with_reducible repeat (first | apply Kd.N_alloc | apply Kd.N_drewN | apply Kd.N_drew));exact Kd.N_mono HO_7.out (fun _ hk => hk.1), by exact bB⟩




end Go.Proofs.Ytmokkhfmbenleaa.QSavedNodes
