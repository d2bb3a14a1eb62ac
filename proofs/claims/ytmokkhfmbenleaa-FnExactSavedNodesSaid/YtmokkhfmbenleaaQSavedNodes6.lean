import Derived.Test.YtmokkhfmbenleaaQSavedNodes0
import Derived.Test.YtmokkhfmbenleaaQSavedNodes2
import Derived.Test.YtmokkhfmbenleaaQSavedNodes4
import Derived.Test.YtmokkhfmbenleaaQSavedNodes5
namespace Go.Proofs.Ytmokkhfmbenleaa.QSavedNodes
open Go.RowKit Go.Proofs.YtmokkhfmbenleaaW.PrintWords Go.Proofs.YtmokkhfmbenleaaW.PrintLast Go.Proofs.YtmokkhfmbenleaaW.PrintMore
attribute [local go_sem] max2_int min2_int max_two min_two max_three min_three max_four min_four   -- for this text's walks alone
set_option linter.unusedVariables false
set_option linter.unusedSimpArgs false
/-! ### spec_l8Round: function 118 -/
mutual
def spec_l8Round.l0 : Nat → List Int → Int → Int → List (S119) → List Int → List Int → Option (List Int × List Int)
 | 0, _, _, _, _, _, _ => none
 | k + 1, x2, x8, x153000, x153001, x162000, x162001 => if x8 < (x2.length : Int) then (if 0 ≤ x8 then ((spec_l1Put.f x162001 (rd x2 x8)).bind fun t163 => (spec_l8Round.l0 k x2 (wrap64 (x8 + 1)) x153000 x153001 x162000 t163)) else (none)) else ((spec_l8Next.f k x153000 x153001 x162000 x162001).bind fun t166 => (spec_l8Round.l1 k t166 0 x162000 x162001))
def spec_l8Round.l1 : Nat → List Int → Int → List Int → List Int → Option (List Int × List Int)
 | 0, _, _, _, _ => none
 | k + 1, x9, x10, x162000, x162001 => if x10 < (x9.length : Int) then (if 0 ≤ x10 then ((spec_l1Put.f x162000 (rd x9 x10)).bind fun t170 => (spec_l8Round.l1 k x9 (wrap64 (x10 + 1)) t170 x162001)) else (none)) else (some (x162000, x162001))
end
def spec_l8Round.f (k : Nat) (a0_0 : Int) (l0_1 : List (S119)) (l1_0 : List Int) (l1_1 : List Int) (l2 : List Int) : Option (List Int × List Int) := (spec_l1Own.f l1_0).bind fun t155 => ((spec_l1Own.f l1_1).bind fun t158 => (spec_l8Round.l0 k l2 0 a0_0 l0_1 t155 t158))
theorem spec_l8Round.mono_l : ∀ k, (∀ y0 y1 y2 y3 y4 y5, LeO (spec_l8Round.l0 k y0 y1 y2 y3 y4 y5) (spec_l8Round.l0 (k + 1) y0 y1 y2 y3 y4 y5)) ∧ (∀ y0 y1 y2 y3, LeO (spec_l8Round.l1 k y0 y1 y2 y3) (spec_l8Round.l1 (k + 1) y0 y1 y2 y3))
 | 0 => ⟨fun _ _ _ _ _ _ r h => by simp [spec_l8Round.l0] at h, fun _ _ _ _ r h => by simp [spec_l8Round.l1] at h⟩
 | k + 1 => by
  obtain ⟨ih0, ih1⟩ := spec_l8Round.mono_l k
  refine ⟨?_, ?_⟩
  ·intro y0 y1 y2 y3 y4 y5
   unfold spec_l8Round.l0
   repeat' first
   | (with_reducible exact ih0 _ _ _ _ _ _)
   | (with_reducible exact ih1 _ _ _ _)
   | (with_reducible exact spec_l8Next.mono _ _ _ _ _)
   | (with_reducible exact LeO.refl _)
   | (with_reducible exact LeO.none _)
   | (with_reducible refine LeO.ite ?_ ?_)
   | (with_reducible refine LeO.bind ?_ (fun _ => ?_))
   | exact ih0 _ _ _ _ _ _
   | exact ih1 _ _ _ _
   | exact spec_l8Next.mono _ _ _ _ _
   | exact LeO.none _
   | refine LeO.ite ?_ ?_
   | refine LeO.bind ?_ (fun _ => ?_)
  ·intro y0 y1 y2 y3
   unfold spec_l8Round.l1
   repeat' first
   | (with_reducible exact ih0 _ _ _ _ _ _)
   | (with_reducible exact ih1 _ _ _ _)
   | (with_reducible exact spec_l8Next.mono _ _ _ _ _)
   | (with_reducible exact LeO.refl _)
   | (with_reducible exact LeO.none _)
   | (with_reducible refine LeO.ite ?_ ?_)
   | (with_reducible refine LeO.bind ?_ (fun _ => ?_))
   | exact ih0 _ _ _ _ _ _
   | exact ih1 _ _ _ _
   | exact spec_l8Next.mono _ _ _ _ _
   | exact LeO.none _
   | refine LeO.ite ?_ ?_
   | refine LeO.bind ?_ (fun _ => ?_)
theorem spec_l8Round.mono : ∀ a0 a1 a2 a3 a4 k, LeO (spec_l8Round.f k a0 a1 a2 a3 a4) (spec_l8Round.f (k + 1) a0 a1 a2 a3 a4) := by
 intro a0 a1 a2 a3 a4 k
 obtain ⟨ih0, ih1⟩ := spec_l8Round.mono_l k
 unfold spec_l8Round.f
 repeat' first
   | (with_reducible exact ih0 _ _ _ _ _ _)
   | (with_reducible exact ih1 _ _ _ _)
   | (with_reducible exact spec_l8Next.mono _ _ _ _ _)
   | (with_reducible exact LeO.refl _)
   | (with_reducible exact LeO.none _)
   | (with_reducible refine LeO.ite ?_ ?_)
   | (with_reducible refine LeO.bind ?_ (fun _ => ?_))
   | exact ih0 _ _ _ _ _ _
   | exact ih1 _ _ _ _
   | exact spec_l8Next.mono _ _ _ _ _
   | exact LeO.none _
   | refine LeO.ite ?_ ?_
   | refine LeO.bind ?_ (fun _ => ?_)
def spec_l8Round.T1 : Bool × List (List Nat × List Nat) := (true, [([], []), ([0], [0]), ([1], [1]), ([], []), ([3], [3]), ([4, 2], [4]), ([2, 5], [2, 5]), ([], []), ([7, 6, 5, 0, 1, 2, 3, 4, 5, 6, 7], [6, 7])])
def spec_l8Round.B1 : List Nat := [0, 1, 3, 0, 8, 31, 63, 0, 255]
theorem spec_l8Round.tab1 : rtab .any (opsOf Try.f118 1) = spec_l8Round.T1 := by kernel_rfl
theorem spec_l8Round.bits1 : waitsOk spec_l8Round.T1.2 spec_l8Round.B1 = true := by kernel_rfl
def spec_l8Round.T5 : Bool × List (List Nat × List Nat) := (true, [([], []), ([0], [0]), ([], []), ([], []), ([2, 3], [2, 3]), ([4], [4]), ([1, 5], [1, 5]), ([0, 1, 2, 3, 4, 5, 6], []), ([7, 6, 6, 0, 1, 2, 3, 4, 5, 6], [6, 7])])
def spec_l8Round.B5 : List Nat := [0, 1, 0, 0, 12, 28, 63, 127, 255]
theorem spec_l8Round.tab5 : rtab .any (opsOf Try.f118 5) = spec_l8Round.T5 := by kernel_rfl
theorem spec_l8Round.bits5 : waitsOk spec_l8Round.T5.2 spec_l8Round.B5 = true := by kernel_rfl
def spec_l8Round.T10 : Bool × List (List Nat × List Nat) := (true, [([], []), ([0], [0]), ([], []), ([], []), ([2, 3], [2, 3]), ([4], [4]), ([1, 5], [1, 5]), ([0, 1, 2, 3, 4, 5, 6], []), ([7, 6, 6, 0, 1, 2, 3, 4, 5, 6], [6, 7])])
def spec_l8Round.B10 : List Nat := [0, 1, 0, 0, 12, 28, 63, 127, 255]
theorem spec_l8Round.tab10 : rtab .any (opsOf Try.f118 10) = spec_l8Round.T10 := by kernel_rfl
theorem spec_l8Round.bits10 : waitsOk spec_l8Round.T10.2 spec_l8Round.B10 = true := by kernel_rfl
set_option maxHeartbeats 8000000 in
set_option maxRecDepth 100000 in
theorem spec_l8Round.calls (k : Nat) (a0_0 : Int) (A0_1 : Option Addr) (c0_1 : Nat) (l0_1 : List (S119)) (A1_0 : Option Addr) (c1_0 : Nat) (l1_0 : List Int) (A1_1 : Option Addr) (c1_1 : Nat) (l1_1 : List Int) (A2 : Option Addr) (c2 : Nat) (l2 : List Int) (r1 : List Int) (r2 : List Int) (w : World) (hr0_1 : Kd.C k119 w A0_1 l0_1.length l0_1) (hc0_1 : l0_1.length ≤ c0_1) (hr1_0 : Kd.C (Kd.int .i64) w A1_0 l1_0.length l1_0) (hc1_0 : l1_0.length ≤ c1_0) (hr1_1 : Kd.C (Kd.int .i64) w A1_1 l1_1.length l1_1) (hc1_1 : l1_1.length ≤ c1_1) (hr2 : Kd.C (Kd.int .i64) w A2 l2.length l2) (hc2 : l2.length ≤ c2) (h : spec_l8Round.f k a0_0 l0_1 l1_0 l1_1 l2 = some (r1, r2)) :
  Calls Try.prog 118 #[.agg #[.int .i64 a0_0, .slice A0_1 l0_1.length c0_1], .agg #[.slice A1_0 l1_0.length c1_0, .slice A1_1 l1_1.length c1_1], .slice A2 l2.length c2] w fun e w' => ∃ v0_ v1_ : Value, e = .returned (.agg #[v0_, v1_]) ∧ Kd.R (Kd.int .i64) 3 w' w.heap.size (fun k_ => some k_ ≠ (v1_ : Value).ownBlock) v0_ r1 ∧ Kd.R (Kd.int .i64) 3 w' w.heap.size (fun k_ => some k_ ≠ (v0_ : Value).ownBlock) v1_ r2 ∧ Below w.heap.size w w' := by
 have hu31 := Try.underlying31
 have hu71 := Try.underlying71
 have HR0_1 := Aside0.mk hr0_1
 have HC0_1 := Aside0.mk hc0_1
 clear hr0_1 hc0_1
 have HR1_0 := Aside0.mk hr1_0
 have HC1_0 := Aside0.mk hc1_0
 clear hr1_0 hc1_0
 have HR1_1 := Aside0.mk hr1_1
 have HC1_1 := Aside0.mk hc1_1
 clear hr1_1 hc1_1
 have HR2 := Aside0.mk hr2
 have HC2 := Aside0.mk hc2
 clear hr2 hc2
 have HB := Aside0.mk (Below.refl w.heap.size w)
 have H : ((spec_l1Own.f l1_0).bind fun t155 => ((spec_l1Own.f l1_1).bind fun t158 => (spec_l8Round.l0 k l2 0 a0_0 l0_1 t155 t158))) = some (r1, r2) := h
 clear h
 replace H := Option.bind_eq_some_iff.mp H
 obtain ⟨t155, A40, H⟩ := H
 replace H : ((spec_l1Own.f l1_1).bind fun t158 => (spec_l8Round.l0 k l2 0 a0_0 l0_1 t155 t158)) = some (r1, r2) := H
 have A4 := Aside0.mk A40
 clear A40
 replace H := Option.bind_eq_some_iff.mp H
 obtain ⟨t158, A50, H⟩ := H
 replace H : (spec_l8Round.l0 k l2 0 a0_0 l0_1 t155 t158) = some (r1, r2) := H
 have A5 := Aside0.mk A50
 clear A50
 have H' := Aside0.mk H
 clear H
 go_enter Try.func118, Try.ntmps118
 try go_wp2_with (first | ((with_reducible refine gate_dst (N := 3) rfl ?_);refine box_event ?hg (N := 3) ?hd (cs := #[.int .i64 a0_0, .slice A0_1 l0_1.length c0_1]) (t := 31) ?hr ?_;(case hd => rfl);(case hg => rfl);(case hr => first | (go_simp;done) | (go_simp;rfl));intro gb152 hg w6 hbox hb;have n0_ := Aside0.mk (below_step (by exact bB) hb);have n1_ := Aside0.mk (hbox);have n2_ := Aside0.mk ((by rw [hg];exact (below_size (by exact bB)) : w.heap.size ≤ gb152));have n3_ := Aside0.mk ((by rw [hg];exact (below_size (by exact bB)) : w.heap.size ≤ gb152));clear HB;have HB := n0_;have BK152 := n1_;have GW152 := n2_;have GE152 := n3_;clear n0_ n1_ n2_ n3_;clear hb hbox hg) | ((with_reducible refine gate_dst (N := 4) rfl ?_);refine box_event ?hg (N := 4) ?hd (cs := #[.slice A1_0 l1_0.length c1_0, .slice A1_1 l1_1.length c1_1]) (t := 71) ?hr ?_;(case hd => rfl);(case hg => rfl);(case hr => first | (go_simp;done) | (go_simp;rfl));intro gb153 hg w7 hbox hb;have n0_ := Aside0.mk (blk_below (g := gb152) (o := .cells #[.int .i64 a0_0, .slice A0_1 l0_1.length c0_1] 31 (0, 0)) (by exact kP BK152.out) hb);have n1_ := Aside0.mk (below_step (by exact bB) hb);have n2_ := Aside0.mk (hbox);have n3_ := Aside0.mk ((by rw [hg];exact (below_size (by exact bB)) : w.heap.size ≤ gb153));have n4_ := Aside0.mk ((by rw [hg];exact (below_size (by exact bB)) : w.heap.size ≤ gb153));have n5_ := Aside0.mk ((by rw [hg];exact Nat.ne_of_lt (blk_lt (g := gb152) (o := .cells #[.int .i64 a0_0, .slice A0_1 l0_1.length c0_1] 31 (0, 0)) (by exact kP BK152.out)) : gb152 ≠ gb153));have n6_ := Aside0.mk ((by rw [hg];exact Nat.ne_of_gt (blk_lt (g := gb152) (o := .cells #[.int .i64 a0_0, .slice A0_1 l0_1.length c0_1] 31 (0, 0)) (by exact kP BK152.out)) : gb153 ≠ gb152));clear BK152;clear HB;have BK152 := n0_;have HB := n1_;have BK153 := n2_;have GW153 := n3_;have GE153 := n4_;have NB152_153 := n5_;have NB153_152 := n6_;clear n0_ n1_ n2_ n3_ n4_ n5_ n6_;clear hb hbox hg) | ((with_reducible refine gate_dst (N := 6) rfl ?_);refine box_event ?hg (N := 6) ?hd (cs := #[.slice none 0 0, .slice none 0 0]) (t := 71) ?hr ?_;(case hd => rfl);(case hg => rfl);(case hr => first | (go_simp;done) | (go_simp;rfl));intro gb154 hg w8 hbox hb;have n0_ := Aside0.mk (blk_below (g := gb152) (o := .cells #[.int .i64 a0_0, .slice A0_1 l0_1.length c0_1] 31 (0, 0)) (by exact kP BK152.out) hb);have n1_ := Aside0.mk (blk_below (g := gb153) (o := .cells #[.slice A1_0 l1_0.length c1_0, .slice A1_1 l1_1.length c1_1] 71 (0, 0)) (by exact kP BK153.out) hb);have n2_ := Aside0.mk (below_step (by exact bB) hb);have n3_ := Aside0.mk (hbox);have n4_ := Aside0.mk ((by rw [hg];exact (below_size (by exact bB)) : w.heap.size ≤ gb154));have n5_ := Aside0.mk ((by rw [hg];exact (below_size (by exact bB)) : w.heap.size ≤ gb154));have n6_ := Aside0.mk ((by rw [hg];exact Nat.ne_of_lt (blk_lt (g := gb152) (o := .cells #[.int .i64 a0_0, .slice A0_1 l0_1.length c0_1] 31 (0, 0)) (by exact kP BK152.out)) : gb152 ≠ gb154));have n7_ := Aside0.mk ((by rw [hg];exact Nat.ne_of_gt (blk_lt (g := gb152) (o := .cells #[.int .i64 a0_0, .slice A0_1 l0_1.length c0_1] 31 (0, 0)) (by exact kP BK152.out)) : gb154 ≠ gb152));have n8_ := Aside0.mk ((by rw [hg];exact Nat.ne_of_lt (blk_lt (g := gb153) (o := .cells #[.slice A1_0 l1_0.length c1_0, .slice A1_1 l1_1.length c1_1] 71 (0, 0)) (by exact kP BK153.out)) : gb153 ≠ gb154));have n9_ := Aside0.mk ((by rw [hg];exact Nat.ne_of_gt (blk_lt (g := gb153) (o := .cells #[.slice A1_0 l1_0.length c1_0, .slice A1_1 l1_1.length c1_1] 71 (0, 0)) (by exact kP BK153.out)) : gb154 ≠ gb153));clear BK152;clear BK153;clear HB;have BK152 := n0_;have BK153 := n1_;have HB := n2_;have BK154 := n3_;have GW154 := n4_;have GE154 := n5_;have NB152_154 := n6_;have NB154_152 := n7_;have NB153_154 := n8_;have NB154_153 := n9_;clear n0_ n1_ n2_ n3_ n4_ n5_ n6_ n7_ n8_ n9_;clear hb hbox hg))
 have n0_ := Aside0.mk (blk_drew BK152.out)
 have n1_ := Aside0.mk (blk_drew BK153.out)
 have n2_ := Aside0.mk (blk_drew BK154.out)
 have n3_ := Aside0.mk (below_drew1 HB.out)
 clear BK152
 clear BK153
 clear BK154
 clear HB
 have BK152 := n0_
 have BK153 := n1_
 have BK154 := n2_
 have HB := n3_
 clear n0_ n1_ n2_ n3_
 refine start_ (n := 9) (S := fun w' => w'.cell? ⟨gb153, 0, none⟩ = some (.slice A1_0 l1_0.length c1_0) ∧ w'.cell? ⟨gb153, 1, none⟩ = some (.slice A1_1 l1_1.length c1_1)) (ds := []) #[false,false,false,false,false,false,false,false,false] (by kernel_rfl) rfl rfl ⟨(blk_cell BK153.out 0).trans rfl, (blk_cell BK153.out 1).trans rfl⟩ (fun hHeld => ?_);refine with_tabW spec_l8Round.tab1 spec_l8Round.bits1 (fun HT_ HW_ => ?_)
 generalize w8.drew = w9 at BK152 BK153 BK154 HB hHeld ⊢
 refine pure_ (i := 0) (N := some 11) (v := ?_) (a' := ?_) #[true,false,false,false,false,false,false,false,false] rfl rfl (any_of HT_.out (by kernel_rfl)) (fun _ _ _ h => h) (Or.inl ⟨by rfl, ?_⟩) ?_ ?_
 rotate_left
 ·intro w'
  go_simp
  with_reducible rfl
 rotate_left
 ·simp only [Act.put, List.setIfInBounds_toArray, List.set_cons_zero, List.set_cons_succ, i64_w, i32_w]
  rfl
 refine pure_ (i := 3) (N := some 14) (v := ?_) (a' := ?_) #[true,false,false,true,false,false,false,false,false] rfl rfl (any_of HT_.out (by kernel_rfl)) (fun _ _ _ h => h) (Or.inl ⟨by rfl, ?_⟩) ?_ ?_
 rotate_left
 ·intro w'
  go_simp
  with_reducible rfl
 rotate_left
 ·simp only [Act.put, List.setIfInBounds_toArray, List.set_cons_zero, List.set_cons_succ, i64_w, i32_w]
  rfl
 refine take_ (i := 1) (N := some 12) (v := ?_) (a' := ?_) #[true,true,false,true,false,false,false,false,false] rfl rfl (take_ofW HT_.out HW_.out (by kernel_rfl)) (fun _ _ _ h => h) (Or.inl ⟨by rfl, ?_⟩) hHeld ?_ ?_
 rotate_left
 ·rintro w' ⟨s0, s1⟩
  go_simp
  with_reducible rfl
 rotate_left
 ·simp only [Act.put, List.setIfInBounds_toArray, List.set_cons_zero, List.set_cons_succ, i64_w, i32_w]
  rfl
 refine take_ (i := 4) (N := some 15) (v := ?_) (a' := ?_) #[true,true,false,true,true,false,false,false,false] rfl rfl (take_ofW HT_.out HW_.out (by kernel_rfl)) (fun _ _ _ h => h) (Or.inl ⟨by rfl, ?_⟩) hHeld ?_ ?_
 rotate_left
 ·rintro w' ⟨s0, s1⟩
  go_simp
  with_reducible rfl
 rotate_left
 ·simp only [Act.put, List.setIfInBounds_toArray, List.set_cons_zero, List.set_cons_succ, i64_w, i32_w]
  rfl
 refine join_ (σ := Value × Value × Nat) 1 #[true,true,true,true,true,true,true,true,false] (fun s_ => [(13, s_.1), (16, s_.2.1), (7, .pointer (some ⟨s_.2.2, 0, none⟩)), (17, .agg #[s_.1, s_.2.1])]) (fun s_ w' => (w'.cell? ⟨gb153, 0, none⟩ = some (.slice A1_0 l1_0.length c1_0) ∧ w'.cell? ⟨gb153, 1, none⟩ = some (.slice A1_1 l1_1.length c1_1)) ∧ (Kd.R (Kd.int .i64) 3 w' w.heap.size (fun k_ => some k_ ≠ (s_.2.1 : Value).ownBlock) s_.1 t155) ∧ (Kd.R (Kd.int .i64) 3 w' w.heap.size (fun k_ => some k_ ≠ (s_.1 : Value).ownBlock) s_.2.1 t158) ∧ (w'.heap[gb152]? = some (.cells #[.int .i64 a0_0, .slice A0_1 l0_1.length c0_1] 31 (0, 0))) ∧ (w'.heap[gb153]? = some (.cells #[.slice A1_0 l1_0.length c1_0, .slice A1_1 l1_1.length c1_1] 71 (0, 0))) ∧ (w'.heap[gb154]? = some (.cells #[.slice none 0 0, .slice none 0 0] 71 (0, 0))) ∧ (w'.heap[s_.2.2]? = some (.cells #[.slice none 0 0, .slice none 0 0] 71 (0, 0))) ∧ (w.heap.size ≤ s_.2.2) ∧ (w.heap.size ≤ s_.2.2) ∧ (gb152 ≠ s_.2.2) ∧ (s_.2.2 ≠ gb152) ∧ (gb153 ≠ s_.2.2) ∧ (s_.2.2 ≠ gb153) ∧ (gb154 ≠ s_.2.2) ∧ (s_.2.2 ≠ gb154) ∧ (Below w.heap.size w w')) ?_ ?_
 rotate_left
 ·intro hCont
  refine two_ (i := 2) (j := 7) (Ni := some 13) (Nj := some 7) #[true,true,true,true,true,false,false,false,false] #[true,true,false,true,true,false,false,true,false] rfl rfl rfl rfl (two_of HT_.out (by kernel_rfl)) (by decide) (by decide) (fun K hK => ?_) (fun K hK => ?_)
  ·skip
   refine goes_ Try.func78 (by kernel_rfl) rfl #[.slice A1_0 l1_0.length c1_0] (by rfl) rfl rfl mM ?_
   with_reducible refine (spec_l1Own.calls _ _ l1_0 t155 _ ?side1 ?side2 A4.out).mono ?_
   (case side1 => exact cP (Kd.C_below HR1_0.out HB.out))
   (case side2 => exact HC1_0.out)
   rintro e w10 ⟨v156, rfl, ho0, hb⟩
   refine ⟨_, rfl, ?_⟩
   have n0_ := Aside0.mk (Kd.R_lower ho0 (below_size (by exact bB)))
   have n1_ := Aside0.mk (blk_below (g := gb152) (o := .cells #[.int .i64 a0_0, .slice A0_1 l0_1.length c0_1] 31 (0, 0)) (by exact kP BK152.out) hb)
   have n2_ := Aside0.mk (blk_below (g := gb153) (o := .cells #[.slice A1_0 l1_0.length c1_0, .slice A1_1 l1_1.length c1_1] 71 (0, 0)) (by exact kP BK153.out) hb)
   have n3_ := Aside0.mk (blk_below (g := gb154) (o := .cells #[.slice none 0 0, .slice none 0 0] 71 (0, 0)) (by exact kP BK154.out) hb)
   have n4_ := Aside0.mk (below_step (by exact bB) hb)
   clear BK152
   clear BK153
   clear BK154
   clear HB
   have HO157 := n0_
   have BK152 := n1_
   have BK153 := n2_
   have BK154 := n3_
   have HB := n4_
   clear n0_ n1_ n2_ n3_ n4_
   (try clear hb)
   (try clear hb2)
   (try clear hk)
   (try clear hi)
   (try clear ho0)
   refine hK.out _ _ ⟨(blk_cell BK153.out 0).trans rfl, (blk_cell BK153.out 1).trans rfl⟩ (fun hHeld => ?_)
   clear hK K
   refine norm_ (a' := ?_) ?_ ?_
   rotate_left
   ·show Act.put _ (some 13) _ = _
    simp only [Act.put, List.setIfInBounds_toArray, List.set_cons_zero, List.set_cons_succ, i64_w, i32_w]
    rfl
   refine two_ (i := 5) (j := 7) (Ni := some 16) (Nj := some 7) #[true,true,true,true,true,true,false,false,false] #[true,true,true,true,true,false,false,true,false] rfl rfl rfl rfl (two_of HT_.out (by kernel_rfl)) (by decide) (by decide) (fun K hK => ?_) (fun K hK => ?_)
   ·skip
    refine goes_ Try.func78 (by kernel_rfl) rfl #[.slice A1_1 l1_1.length c1_1] (by rfl) rfl rfl mM ?_
    with_reducible refine (spec_l1Own.calls _ _ l1_1 t158 _ ?side1 ?side2 A5.out).mono ?_
    (case side1 => exact cP (Kd.C_below HR1_1.out HB.out))
    (case side2 => exact HC1_1.out)
    rintro e w11 ⟨v159, rfl, ho0, hb⟩
    refine ⟨_, rfl, ?_⟩
    have n0_ := Aside0.mk (Kd.R_elder' (by exact rP HO157.out) (Kd.R_base ho0) hb)
    have n1_ := Aside0.mk (Kd.R_lower (Kd.R_new' ho0 (Kd.R_lt (by exact rP HO157.out))) (below_size (by exact bB)))
    have n2_ := Aside0.mk (blk_below (g := gb152) (o := .cells #[.int .i64 a0_0, .slice A0_1 l0_1.length c0_1] 31 (0, 0)) (by exact kP BK152.out) hb)
    have n3_ := Aside0.mk (blk_below (g := gb153) (o := .cells #[.slice A1_0 l1_0.length c1_0, .slice A1_1 l1_1.length c1_1] 71 (0, 0)) (by exact kP BK153.out) hb)
    have n4_ := Aside0.mk (blk_below (g := gb154) (o := .cells #[.slice none 0 0, .slice none 0 0] 71 (0, 0)) (by exact kP BK154.out) hb)
    have n5_ := Aside0.mk (below_step (by exact bB) hb)
    clear HO157
    clear BK152
    clear BK153
    clear BK154
    clear HB
    have HO157 := n0_
    have HO160 := n1_
    have BK152 := n2_
    have BK153 := n3_
    have BK154 := n4_
    have HB := n5_
    clear n0_ n1_ n2_ n3_ n4_ n5_
    (try clear hb)
    (try clear hb2)
    (try clear hk)
    (try clear hi)
    (try clear ho0)
    obtain ⟨Ao12, co12, eo12⟩ := Kd.R_slice HO160.out
    (first | subst eo12 | (injection eo12 with f1_ f2_ f3_;have f4_ := f1_.symm;have f5_ := f3_.symm;clear f1_ f2_ f3_;subst f4_;subst f5_))
    obtain ⟨Ao13, co13, eo13⟩ := Kd.R_slice HO157.out
    (first | subst eo13 | (injection eo13 with f1_ f2_ f3_;have f4_ := f1_.symm;have f5_ := f3_.symm;clear f1_ f2_ f3_;subst f4_;subst f5_))
    refine hK.out _ _ ⟨(blk_cell BK153.out 0).trans rfl, (blk_cell BK153.out 1).trans rfl⟩ (fun hHeld => ?_)
    clear hK K
    refine norm_ (a' := ?_) ?_ ?_
    rotate_left
    ·show Act.put _ (some 16) _ = _
     simp only [Act.put, List.setIfInBounds_toArray, List.set_cons_zero, List.set_cons_succ, i64_w, i32_w]
     rfl
    refine pure_ (i := 6) (N := some 17) (v := ?_) (a' := ?_) #[true,true,true,true,true,true,true,false,false] rfl rfl (any_of HT_.out (by kernel_rfl)) (fun _ _ _ h => h) (Or.inl ⟨by rfl, ?_⟩) ?_ ?_
    rotate_left
    ·intro w'
     go_simp
     with_reducible rfl
    rotate_left
    ·simp only [Act.put, List.setIfInBounds_toArray, List.set_cons_zero, List.set_cons_succ, i64_w, i32_w]
     rfl
    refine one_ (i := 7) (N := some 7) #[true,true,true,true,true,true,true,true,false] rfl rfl (one_of HT_.out (by kernel_rfl)) (by decide) (fun K hK => ?_)
    refine box_step ?hg (N := 7) ?hd (cs := #[.slice none 0 0, .slice none 0 0]) (t := 71) ?hr ?_;(case hd => rfl);(case hg => rfl);(case hr => first | (go_simp;done) | (go_simp;rfl))
    intro gb161 hg w14 hbox hb
    have n0_ := Aside0.mk (Kd.R_below (by exact rP HO157.out) hb)
    have n1_ := Aside0.mk (Kd.R_below (by exact rP HO160.out) hb)
    have n2_ := Aside0.mk (blk_below (g := gb152) (o := .cells #[.int .i64 a0_0, .slice A0_1 l0_1.length c0_1] 31 (0, 0)) (by exact kP BK152.out) hb)
    have n3_ := Aside0.mk (blk_below (g := gb153) (o := .cells #[.slice A1_0 l1_0.length c1_0, .slice A1_1 l1_1.length c1_1] 71 (0, 0)) (by exact kP BK153.out) hb)
    have n4_ := Aside0.mk (blk_below (g := gb154) (o := .cells #[.slice none 0 0, .slice none 0 0] 71 (0, 0)) (by exact kP BK154.out) hb)
    have n5_ := Aside0.mk (below_step (by exact bB) hb)
    have n6_ := Aside0.mk (hbox)
    have n7_ := Aside0.mk ((by rw [hg];exact (below_size (by exact bB)) : w.heap.size ≤ gb161))
    have n8_ := Aside0.mk ((by rw [hg];exact (below_size (by exact bB)) : w.heap.size ≤ gb161))
    have n9_ := Aside0.mk ((by rw [hg];exact Nat.ne_of_lt (blk_lt (g := gb152) (o := .cells #[.int .i64 a0_0, .slice A0_1 l0_1.length c0_1] 31 (0, 0)) (by exact kP BK152.out)) : gb152 ≠ gb161))
    have n10_ := Aside0.mk ((by rw [hg];exact Nat.ne_of_gt (blk_lt (g := gb152) (o := .cells #[.int .i64 a0_0, .slice A0_1 l0_1.length c0_1] 31 (0, 0)) (by exact kP BK152.out)) : gb161 ≠ gb152))
    have n11_ := Aside0.mk ((by rw [hg];exact Nat.ne_of_lt (blk_lt (g := gb153) (o := .cells #[.slice A1_0 l1_0.length c1_0, .slice A1_1 l1_1.length c1_1] 71 (0, 0)) (by exact kP BK153.out)) : gb153 ≠ gb161))
    have n12_ := Aside0.mk ((by rw [hg];exact Nat.ne_of_gt (blk_lt (g := gb153) (o := .cells #[.slice A1_0 l1_0.length c1_0, .slice A1_1 l1_1.length c1_1] 71 (0, 0)) (by exact kP BK153.out)) : gb161 ≠ gb153))
    have n13_ := Aside0.mk ((by rw [hg];exact Nat.ne_of_lt (blk_lt (g := gb154) (o := .cells #[.slice none 0 0, .slice none 0 0] 71 (0, 0)) (by exact kP BK154.out)) : gb154 ≠ gb161))
    have n14_ := Aside0.mk ((by rw [hg];exact Nat.ne_of_gt (blk_lt (g := gb154) (o := .cells #[.slice none 0 0, .slice none 0 0] 71 (0, 0)) (by exact kP BK154.out)) : gb161 ≠ gb154))
    clear HO157
    clear HO160
    clear BK152
    clear BK153
    clear BK154
    clear HB
    have HO157 := n0_
    have HO160 := n1_
    have BK152 := n2_
    have BK153 := n3_
    have BK154 := n4_
    have HB := n5_
    have BK161 := n6_
    have GW161 := n7_
    have GE161 := n8_
    have NB152_161 := n9_
    have NB161_152 := n10_
    have NB153_161 := n11_
    have NB161_153 := n12_
    have NB154_161 := n13_
    have NB161_154 := n14_
    clear n0_ n1_ n2_ n3_ n4_ n5_ n6_ n7_ n8_ n9_ n10_ n11_ n12_ n13_ n14_
    clear hb hbox hg
    refine hK.out _ _ ⟨(blk_cell BK153.out 0).trans rfl, (blk_cell BK153.out 1).trans rfl⟩ (fun hHeld => ?_)
    clear hK K
    refine norm_ (a' := ?_) ?_ ?_
    rotate_left
    ·show Act.put _ (some 7) _ = _
     simp only [Act.put, List.setIfInBounds_toArray, List.set_cons_zero, List.set_cons_succ, i64_w, i32_w]
     rfl
    exact norm_ (by simp only [putAll, Act.put, List.setIfInBounds_toArray, List.set_cons_zero, List.set_cons_succ]) (hCont (.slice Ao13 t155.length co13, .slice Ao12 t158.length co12, gb161) _ ⟨hHeld, (by refine rP ?_;exact Kd.R_mono HO157.out (fun _ hk => hk.2)), (by refine rP ?_;exact Kd.R_mono HO160.out (fun _ hk => hk.2)), (by exact kP BK152.out), (by exact kP BK153.out), (by exact kP BK154.out), (by exact kP BK161.out), GW161.out, GE161.out, NB152_161.out, NB161_152.out, NB153_161.out, NB161_153.out, NB154_161.out, NB161_154.out, (by exact bB)⟩)
   ·skip
    refine box_step ?hg (N := 7) ?hd (cs := #[.slice none 0 0, .slice none 0 0]) (t := 71) ?hr ?_;(case hd => rfl);(case hg => rfl);(case hr => first | (go_simp;done) | (go_simp;rfl))
    intro gb161 hg w11 hbox hb
    have n0_ := Aside0.mk (Kd.R_below (by exact rP HO157.out) hb)
    have n1_ := Aside0.mk (blk_below (g := gb152) (o := .cells #[.int .i64 a0_0, .slice A0_1 l0_1.length c0_1] 31 (0, 0)) (by exact kP BK152.out) hb)
    have n2_ := Aside0.mk (blk_below (g := gb153) (o := .cells #[.slice A1_0 l1_0.length c1_0, .slice A1_1 l1_1.length c1_1] 71 (0, 0)) (by exact kP BK153.out) hb)
    have n3_ := Aside0.mk (blk_below (g := gb154) (o := .cells #[.slice none 0 0, .slice none 0 0] 71 (0, 0)) (by exact kP BK154.out) hb)
    have n4_ := Aside0.mk (below_step (by exact bB) hb)
    have n5_ := Aside0.mk (hbox)
    have n6_ := Aside0.mk ((by rw [hg];exact (below_size (by exact bB)) : w.heap.size ≤ gb161))
    have n7_ := Aside0.mk ((by rw [hg];exact (below_size (by exact bB)) : w.heap.size ≤ gb161))
    have n8_ := Aside0.mk ((by rw [hg];exact Nat.ne_of_lt (blk_lt (g := gb152) (o := .cells #[.int .i64 a0_0, .slice A0_1 l0_1.length c0_1] 31 (0, 0)) (by exact kP BK152.out)) : gb152 ≠ gb161))
    have n9_ := Aside0.mk ((by rw [hg];exact Nat.ne_of_gt (blk_lt (g := gb152) (o := .cells #[.int .i64 a0_0, .slice A0_1 l0_1.length c0_1] 31 (0, 0)) (by exact kP BK152.out)) : gb161 ≠ gb152))
    have n10_ := Aside0.mk ((by rw [hg];exact Nat.ne_of_lt (blk_lt (g := gb153) (o := .cells #[.slice A1_0 l1_0.length c1_0, .slice A1_1 l1_1.length c1_1] 71 (0, 0)) (by exact kP BK153.out)) : gb153 ≠ gb161))
    have n11_ := Aside0.mk ((by rw [hg];exact Nat.ne_of_gt (blk_lt (g := gb153) (o := .cells #[.slice A1_0 l1_0.length c1_0, .slice A1_1 l1_1.length c1_1] 71 (0, 0)) (by exact kP BK153.out)) : gb161 ≠ gb153))
    have n12_ := Aside0.mk ((by rw [hg];exact Nat.ne_of_lt (blk_lt (g := gb154) (o := .cells #[.slice none 0 0, .slice none 0 0] 71 (0, 0)) (by exact kP BK154.out)) : gb154 ≠ gb161))
    have n13_ := Aside0.mk ((by rw [hg];exact Nat.ne_of_gt (blk_lt (g := gb154) (o := .cells #[.slice none 0 0, .slice none 0 0] 71 (0, 0)) (by exact kP BK154.out)) : gb161 ≠ gb154))
    clear HO157
    clear BK152
    clear BK153
    clear BK154
    clear HB
    have HO157 := n0_
    have BK152 := n1_
    have BK153 := n2_
    have BK154 := n3_
    have HB := n4_
    have BK161 := n5_
    have GW161 := n6_
    have GE161 := n7_
    have NB152_161 := n8_
    have NB161_152 := n9_
    have NB153_161 := n10_
    have NB161_153 := n11_
    have NB154_161 := n12_
    have NB161_154 := n13_
    clear n0_ n1_ n2_ n3_ n4_ n5_ n6_ n7_ n8_ n9_ n10_ n11_ n12_ n13_
    clear hb hbox hg
    refine hK.out _ _ ⟨(blk_cell BK153.out 0).trans rfl, (blk_cell BK153.out 1).trans rfl⟩ (fun hHeld => ?_)
    clear hK K
    refine norm_ (a' := ?_) ?_ ?_
    rotate_left
    ·show Act.put _ (some 7) _ = _
     simp only [Act.put, List.setIfInBounds_toArray, List.set_cons_zero, List.set_cons_succ, i64_w, i32_w]
     rfl
    refine one_ (i := 5) (N := some 16) #[true,true,true,true,true,true,false,true,false] rfl rfl (one_of HT_.out (by kernel_rfl)) (by decide) (fun K hK => ?_)
    refine goes_ Try.func78 (by kernel_rfl) rfl #[.slice A1_1 l1_1.length c1_1] (by rfl) rfl rfl mM ?_
    with_reducible refine (spec_l1Own.calls _ _ l1_1 t158 _ ?side1 ?side2 A5.out).mono ?_
    (case side1 => exact cP (Kd.C_below HR1_1.out HB.out))
    (case side2 => exact HC1_1.out)
    rintro e w12 ⟨v159, rfl, ho0, hb⟩
    refine ⟨_, rfl, ?_⟩
    have n0_ := Aside0.mk (Kd.R_elder' (by exact rP HO157.out) (Kd.R_base ho0) hb)
    have n1_ := Aside0.mk (Kd.R_lower (Kd.R_new' ho0 (Kd.R_lt (by exact rP HO157.out))) (below_size (by exact bB)))
    have n2_ := Aside0.mk (blk_below (g := gb152) (o := .cells #[.int .i64 a0_0, .slice A0_1 l0_1.length c0_1] 31 (0, 0)) (by exact kP BK152.out) hb)
    have n3_ := Aside0.mk (blk_below (g := gb153) (o := .cells #[.slice A1_0 l1_0.length c1_0, .slice A1_1 l1_1.length c1_1] 71 (0, 0)) (by exact kP BK153.out) hb)
    have n4_ := Aside0.mk (blk_below (g := gb154) (o := .cells #[.slice none 0 0, .slice none 0 0] 71 (0, 0)) (by exact kP BK154.out) hb)
    have n5_ := Aside0.mk (blk_below (g := gb161) (o := .cells #[.slice none 0 0, .slice none 0 0] 71 (0, 0)) (by exact kP BK161.out) hb)
    have n6_ := Aside0.mk (below_step (by exact bB) hb)
    clear HO157
    clear BK152
    clear BK153
    clear BK154
    clear BK161
    clear HB
    have HO157 := n0_
    have HO160 := n1_
    have BK152 := n2_
    have BK153 := n3_
    have BK154 := n4_
    have BK161 := n5_
    have HB := n6_
    clear n0_ n1_ n2_ n3_ n4_ n5_ n6_
    (try clear hb)
    (try clear hb2)
    (try clear hk)
    (try clear hi)
    (try clear ho0)
    obtain ⟨Ao13, co13, eo13⟩ := Kd.R_slice HO160.out
    (first | subst eo13 | (injection eo13 with f1_ f2_ f3_;have f4_ := f1_.symm;have f5_ := f3_.symm;clear f1_ f2_ f3_;subst f4_;subst f5_))
    obtain ⟨Ao14, co14, eo14⟩ := Kd.R_slice HO157.out
    (first | subst eo14 | (injection eo14 with f1_ f2_ f3_;have f4_ := f1_.symm;have f5_ := f3_.symm;clear f1_ f2_ f3_;subst f4_;subst f5_))
    refine hK.out _ _ ⟨(blk_cell BK153.out 0).trans rfl, (blk_cell BK153.out 1).trans rfl⟩ (fun hHeld => ?_)
    clear hK K
    refine norm_ (a' := ?_) ?_ ?_
    rotate_left
    ·show Act.put _ (some 16) _ = _
     simp only [Act.put, List.setIfInBounds_toArray, List.set_cons_zero, List.set_cons_succ, i64_w, i32_w]
     rfl
    refine pure_ (i := 6) (N := some 17) (v := ?_) (a' := ?_) #[true,true,true,true,true,true,true,true,false] rfl rfl (any_of HT_.out (by kernel_rfl)) (fun _ _ _ h => h) (Or.inl ⟨by rfl, ?_⟩) ?_ ?_
    rotate_left
    ·intro w'
     go_simp
     with_reducible rfl
    rotate_left
    ·simp only [Act.put, List.setIfInBounds_toArray, List.set_cons_zero, List.set_cons_succ, i64_w, i32_w]
     rfl
    exact norm_ (by simp only [putAll, Act.put, List.setIfInBounds_toArray, List.set_cons_zero, List.set_cons_succ]) (hCont (.slice Ao14 t155.length co14, .slice Ao13 t158.length co13, gb161) _ ⟨hHeld, (by refine rP ?_;exact Kd.R_mono HO157.out (fun _ hk => hk.2)), (by refine rP ?_;exact Kd.R_mono HO160.out (fun _ hk => hk.2)), (by exact kP BK152.out), (by exact kP BK153.out), (by exact kP BK154.out), (by exact kP BK161.out), GW161.out, GE161.out, NB152_161.out, NB161_152.out, NB153_161.out, NB161_153.out, NB154_161.out, NB161_154.out, (by exact bB)⟩)
  ·skip
   refine box_step ?hg (N := 7) ?hd (cs := #[.slice none 0 0, .slice none 0 0]) (t := 71) ?hr ?_;(case hd => rfl);(case hg => rfl);(case hr => first | (go_simp;done) | (go_simp;rfl))
   intro gb161 hg w10 hbox hb
   have n0_ := Aside0.mk (blk_below (g := gb152) (o := .cells #[.int .i64 a0_0, .slice A0_1 l0_1.length c0_1] 31 (0, 0)) (by exact kP BK152.out) hb)
   have n1_ := Aside0.mk (blk_below (g := gb153) (o := .cells #[.slice A1_0 l1_0.length c1_0, .slice A1_1 l1_1.length c1_1] 71 (0, 0)) (by exact kP BK153.out) hb)
   have n2_ := Aside0.mk (blk_below (g := gb154) (o := .cells #[.slice none 0 0, .slice none 0 0] 71 (0, 0)) (by exact kP BK154.out) hb)
   have n3_ := Aside0.mk (below_step (by exact bB) hb)
   have n4_ := Aside0.mk (hbox)
   have n5_ := Aside0.mk ((by rw [hg];exact (below_size (by exact bB)) : w.heap.size ≤ gb161))
   have n6_ := Aside0.mk ((by rw [hg];exact (below_size (by exact bB)) : w.heap.size ≤ gb161))
   have n7_ := Aside0.mk ((by rw [hg];exact Nat.ne_of_lt (blk_lt (g := gb152) (o := .cells #[.int .i64 a0_0, .slice A0_1 l0_1.length c0_1] 31 (0, 0)) (by exact kP BK152.out)) : gb152 ≠ gb161))
   have n8_ := Aside0.mk ((by rw [hg];exact Nat.ne_of_gt (blk_lt (g := gb152) (o := .cells #[.int .i64 a0_0, .slice A0_1 l0_1.length c0_1] 31 (0, 0)) (by exact kP BK152.out)) : gb161 ≠ gb152))
   have n9_ := Aside0.mk ((by rw [hg];exact Nat.ne_of_lt (blk_lt (g := gb153) (o := .cells #[.slice A1_0 l1_0.length c1_0, .slice A1_1 l1_1.length c1_1] 71 (0, 0)) (by exact kP BK153.out)) : gb153 ≠ gb161))
   have n10_ := Aside0.mk ((by rw [hg];exact Nat.ne_of_gt (blk_lt (g := gb153) (o := .cells #[.slice A1_0 l1_0.length c1_0, .slice A1_1 l1_1.length c1_1] 71 (0, 0)) (by exact kP BK153.out)) : gb161 ≠ gb153))
   have n11_ := Aside0.mk ((by rw [hg];exact Nat.ne_of_lt (blk_lt (g := gb154) (o := .cells #[.slice none 0 0, .slice none 0 0] 71 (0, 0)) (by exact kP BK154.out)) : gb154 ≠ gb161))
   have n12_ := Aside0.mk ((by rw [hg];exact Nat.ne_of_gt (blk_lt (g := gb154) (o := .cells #[.slice none 0 0, .slice none 0 0] 71 (0, 0)) (by exact kP BK154.out)) : gb161 ≠ gb154))
   clear BK152
   clear BK153
   clear BK154
   clear HB
   have BK152 := n0_
   have BK153 := n1_
   have BK154 := n2_
   have HB := n3_
   have BK161 := n4_
   have GW161 := n5_
   have GE161 := n6_
   have NB152_161 := n7_
   have NB161_152 := n8_
   have NB153_161 := n9_
   have NB161_153 := n10_
   have NB154_161 := n11_
   have NB161_154 := n12_
   clear n0_ n1_ n2_ n3_ n4_ n5_ n6_ n7_ n8_ n9_ n10_ n11_ n12_
   clear hb hbox hg
   refine hK.out _ _ ⟨(blk_cell BK153.out 0).trans rfl, (blk_cell BK153.out 1).trans rfl⟩ (fun hHeld => ?_)
   clear hK K
   refine norm_ (a' := ?_) ?_ ?_
   rotate_left
   ·show Act.put _ (some 7) _ = _
    simp only [Act.put, List.setIfInBounds_toArray, List.set_cons_zero, List.set_cons_succ, i64_w, i32_w]
    rfl
   refine one_ (i := 2) (N := some 13) #[true,true,true,true,true,false,false,true,false] rfl rfl (one_of HT_.out (by kernel_rfl)) (by decide) (fun K hK => ?_)
   refine goes_ Try.func78 (by kernel_rfl) rfl #[.slice A1_0 l1_0.length c1_0] (by rfl) rfl rfl mM ?_
   with_reducible refine (spec_l1Own.calls _ _ l1_0 t155 _ ?side1 ?side2 A4.out).mono ?_
   (case side1 => exact cP (Kd.C_below HR1_0.out HB.out))
   (case side2 => exact HC1_0.out)
   rintro e w11 ⟨v156, rfl, ho0, hb⟩
   refine ⟨_, rfl, ?_⟩
   have n0_ := Aside0.mk (Kd.R_lower ho0 (below_size (by exact bB)))
   have n1_ := Aside0.mk (blk_below (g := gb152) (o := .cells #[.int .i64 a0_0, .slice A0_1 l0_1.length c0_1] 31 (0, 0)) (by exact kP BK152.out) hb)
   have n2_ := Aside0.mk (blk_below (g := gb153) (o := .cells #[.slice A1_0 l1_0.length c1_0, .slice A1_1 l1_1.length c1_1] 71 (0, 0)) (by exact kP BK153.out) hb)
   have n3_ := Aside0.mk (blk_below (g := gb154) (o := .cells #[.slice none 0 0, .slice none 0 0] 71 (0, 0)) (by exact kP BK154.out) hb)
   have n4_ := Aside0.mk (blk_below (g := gb161) (o := .cells #[.slice none 0 0, .slice none 0 0] 71 (0, 0)) (by exact kP BK161.out) hb)
   have n5_ := Aside0.mk (below_step (by exact bB) hb)
   clear BK152
   clear BK153
   clear BK154
   clear BK161
   clear HB
   have HO157 := n0_
   have BK152 := n1_
   have BK153 := n2_
   have BK154 := n3_
   have BK161 := n4_
   have HB := n5_
   clear n0_ n1_ n2_ n3_ n4_ n5_
   (try clear hb)
   (try clear hb2)
   (try clear hk)
   (try clear hi)
   (try clear ho0)
   refine hK.out _ _ ⟨(blk_cell BK153.out 0).trans rfl, (blk_cell BK153.out 1).trans rfl⟩ (fun hHeld => ?_)
   clear hK K
   refine norm_ (a' := ?_) ?_ ?_
   rotate_left
   ·show Act.put _ (some 13) _ = _
    simp only [Act.put, List.setIfInBounds_toArray, List.set_cons_zero, List.set_cons_succ, i64_w, i32_w]
    rfl
   refine one_ (i := 5) (N := some 16) #[true,true,true,true,true,true,false,true,false] rfl rfl (one_of HT_.out (by kernel_rfl)) (by decide) (fun K hK => ?_)
   refine goes_ Try.func78 (by kernel_rfl) rfl #[.slice A1_1 l1_1.length c1_1] (by rfl) rfl rfl mM ?_
   with_reducible refine (spec_l1Own.calls _ _ l1_1 t158 _ ?side1 ?side2 A5.out).mono ?_
   (case side1 => exact cP (Kd.C_below HR1_1.out HB.out))
   (case side2 => exact HC1_1.out)
   rintro e w12 ⟨v159, rfl, ho0, hb⟩
   refine ⟨_, rfl, ?_⟩
   have n0_ := Aside0.mk (Kd.R_elder' (by exact rP HO157.out) (Kd.R_base ho0) hb)
   have n1_ := Aside0.mk (Kd.R_lower (Kd.R_new' ho0 (Kd.R_lt (by exact rP HO157.out))) (below_size (by exact bB)))
   have n2_ := Aside0.mk (blk_below (g := gb152) (o := .cells #[.int .i64 a0_0, .slice A0_1 l0_1.length c0_1] 31 (0, 0)) (by exact kP BK152.out) hb)
   have n3_ := Aside0.mk (blk_below (g := gb153) (o := .cells #[.slice A1_0 l1_0.length c1_0, .slice A1_1 l1_1.length c1_1] 71 (0, 0)) (by exact kP BK153.out) hb)
   have n4_ := Aside0.mk (blk_below (g := gb154) (o := .cells #[.slice none 0 0, .slice none 0 0] 71 (0, 0)) (by exact kP BK154.out) hb)
   have n5_ := Aside0.mk (blk_below (g := gb161) (o := .cells #[.slice none 0 0, .slice none 0 0] 71 (0, 0)) (by exact kP BK161.out) hb)
   have n6_ := Aside0.mk (below_step (by exact bB) hb)
   clear HO157
   clear BK152
   clear BK153
   clear BK154
   clear BK161
   clear HB
   have HO157 := n0_
   have HO160 := n1_
   have BK152 := n2_
   have BK153 := n3_
   have BK154 := n4_
   have BK161 := n5_
   have HB := n6_
   clear n0_ n1_ n2_ n3_ n4_ n5_ n6_
   (try clear hb)
   (try clear hb2)
   (try clear hk)
   (try clear hi)
   (try clear ho0)
   obtain ⟨Ao13, co13, eo13⟩ := Kd.R_slice HO160.out
   (first | subst eo13 | (injection eo13 with f1_ f2_ f3_;have f4_ := f1_.symm;have f5_ := f3_.symm;clear f1_ f2_ f3_;subst f4_;subst f5_))
   obtain ⟨Ao14, co14, eo14⟩ := Kd.R_slice HO157.out
   (first | subst eo14 | (injection eo14 with f1_ f2_ f3_;have f4_ := f1_.symm;have f5_ := f3_.symm;clear f1_ f2_ f3_;subst f4_;subst f5_))
   refine hK.out _ _ ⟨(blk_cell BK153.out 0).trans rfl, (blk_cell BK153.out 1).trans rfl⟩ (fun hHeld => ?_)
   clear hK K
   refine norm_ (a' := ?_) ?_ ?_
   rotate_left
   ·show Act.put _ (some 16) _ = _
    simp only [Act.put, List.setIfInBounds_toArray, List.set_cons_zero, List.set_cons_succ, i64_w, i32_w]
    rfl
   refine pure_ (i := 6) (N := some 17) (v := ?_) (a' := ?_) #[true,true,true,true,true,true,true,true,false] rfl rfl (any_of HT_.out (by kernel_rfl)) (fun _ _ _ h => h) (Or.inl ⟨by rfl, ?_⟩) ?_ ?_
   rotate_left
   ·intro w'
    go_simp
    with_reducible rfl
   rotate_left
   ·simp only [Act.put, List.setIfInBounds_toArray, List.set_cons_zero, List.set_cons_succ, i64_w, i32_w]
    rfl
   exact norm_ (by simp only [putAll, Act.put, List.setIfInBounds_toArray, List.set_cons_zero, List.set_cons_succ]) (hCont (.slice Ao14 t155.length co14, .slice Ao13 t158.length co13, gb161) _ ⟨hHeld, (by refine rP ?_;exact Kd.R_mono HO157.out (fun _ hk => hk.2)), (by refine rP ?_;exact Kd.R_mono HO160.out (fun _ hk => hk.2)), (by exact kP BK152.out), (by exact kP BK153.out), (by exact kP BK154.out), (by exact kP BK161.out), GW161.out, GE161.out, NB152_161.out, NB161_152.out, NB153_161.out, NB161_153.out, NB154_161.out, NB161_154.out, (by exact bB)⟩)
 rintro ⟨v156, v159, gb161⟩ w15 ⟨hS_, h0_, h1_, h2_, h3_, h4_, h5_, h6_, h7_, h8_, h9_, h10_, h11_, h12_, h13_, h14_⟩
 have n0_ : Aside0 (Kd.R (Kd.int .i64) 3 w15 w.heap.size (fun k_ => some k_ ≠ (v159 : Value).ownBlock) v156 t155) := ⟨h0_⟩
 have n1_ : Aside0 (Kd.R (Kd.int .i64) 3 w15 w.heap.size (fun k_ => some k_ ≠ (v156 : Value).ownBlock) v159 t158) := ⟨h1_⟩
 have n2_ : Aside0 (w15.heap[gb152]? = some (.cells #[.int .i64 a0_0, .slice A0_1 l0_1.length c0_1] 31 (0, 0))) := ⟨h2_⟩
 have n3_ : Aside0 (w15.heap[gb153]? = some (.cells #[.slice A1_0 l1_0.length c1_0, .slice A1_1 l1_1.length c1_1] 71 (0, 0))) := ⟨h3_⟩
 have n4_ : Aside0 (w15.heap[gb154]? = some (.cells #[.slice none 0 0, .slice none 0 0] 71 (0, 0))) := ⟨h4_⟩
 have n5_ : Aside0 (w15.heap[gb161]? = some (.cells #[.slice none 0 0, .slice none 0 0] 71 (0, 0))) := ⟨h5_⟩
 have n6_ : Aside0 (w.heap.size ≤ gb161) := ⟨h6_⟩
 have n7_ : Aside0 (w.heap.size ≤ gb161) := ⟨h7_⟩
 have n8_ : Aside0 (gb152 ≠ gb161) := ⟨h8_⟩
 have n9_ : Aside0 (gb161 ≠ gb152) := ⟨h9_⟩
 have n10_ : Aside0 (gb153 ≠ gb161) := ⟨h10_⟩
 have n11_ : Aside0 (gb161 ≠ gb153) := ⟨h11_⟩
 have n12_ : Aside0 (gb154 ≠ gb161) := ⟨h12_⟩
 have n13_ : Aside0 (gb161 ≠ gb154) := ⟨h13_⟩
 have n14_ : Aside0 (Below w.heap.size w w15) := ⟨h14_⟩
 clear BK152
 clear BK153
 clear BK154
 clear HB
 clear h0_ h1_ h2_ h3_ h4_ h5_ h6_ h7_ h8_ h9_ h10_ h11_ h12_ h13_ h14_
 have HO157 := n0_
 have HO160 := n1_
 have BK152 := n2_
 have BK153 := n3_
 have BK154 := n4_
 have BK161 := n5_
 have GW161 := n6_
 have GE161 := n7_
 have NB152_161 := n8_
 have NB161_152 := n9_
 have NB153_161 := n10_
 have NB161_153 := n11_
 have NB154_161 := n12_
 have NB161_154 := n13_
 have HB := n14_
 clear n0_ n1_ n2_ n3_ n4_ n5_ n6_ n7_ n8_ n9_ n10_ n11_ n12_ n13_ n14_
 have hHeld : w15.cell? ⟨gb153, 0, none⟩ = some (.slice A1_0 l1_0.length c1_0) ∧ w15.cell? ⟨gb153, 1, none⟩ = some (.slice A1_1 l1_1.length c1_1) := hS_
 obtain ⟨Ao16, co16, eo16⟩ := Kd.R_slice HO160.out
 (first | subst eo16 | (injection eo16 with f1_ f2_ f3_;have f4_ := f1_.symm;have f5_ := f3_.symm;clear f1_ f2_ f3_;subst f4_;subst f5_))
 obtain ⟨Ao17, co17, eo17⟩ := Kd.R_slice HO157.out
 (first | subst eo17 | (injection eo17 with f1_ f2_ f3_;have f4_ := f1_.symm;have f5_ := f3_.symm;clear f1_ f2_ f3_;subst f4_;subst f5_))
 refine norm_ (a' := ?_) ?_ ?_
 rotate_left
 ·simp only [putAll, Act.put, List.setIfInBounds_toArray, List.set_cons_zero, List.set_cons_succ]
  rfl
 refine one_ (i := 8) (N := none) #[true,true,true,true,true,true,true,true,true] rfl rfl (one_of HT_.out (by kernel_rfl)) (by decide) (fun K hK => ?_)
 have hs18 : w15.cell? ⟨gb161, 0, none⟩ = some (.slice none 0 0) := (blk_cell BK161.out 0).trans rfl
 have hfs18 := blk_frozen BK161.out 0
 have hns18_0 := NB152_161.out
 have hns18_1 := NB153_161.out
 have hns18_2 := NB154_161.out
 have hms18_0 := NB161_152.out
 have hms18_1 := NB161_153.out
 have hms18_2 := NB161_154.out
 have hs19 : w15.cell? ⟨gb161, 1, none⟩ = some (.slice none 0 0) := (blk_cell BK161.out 1).trans rfl
 have hfs19 := blk_frozen BK161.out 1
 have hns19_0 := NB152_161.out
 have hns19_1 := NB153_161.out
 have hns19_2 := NB154_161.out
 have hms19_0 := NB161_152.out
 have hms19_1 := NB161_153.out
 have hms19_2 := NB161_154.out
 refine skip_ (w1 := ?_) (by rfl) rfl ?_ ?_
 rotate_left
 ·go_simp
  rfl
 refine hK.out _ _ ⟨((cell_far (p := ⟨gb161, _, none⟩) NB153_161.out _).trans (((cell_far (p := ⟨gb161, _, none⟩) NB153_161.out _).trans (hHeld.1)))), ((cell_far (p := ⟨gb161, _, none⟩) NB153_161.out _).trans (((cell_far (p := ⟨gb161, _, none⟩) NB153_161.out _).trans (hHeld.2))))⟩ (fun hHeld => ?_)
 clear hK K
 refine done_ (done_of HT_.out (by kernel_rfl)) ?_
 try go_wp2
 go_loopg [8] k (fun kq v8 w' => ∃ (x8_1 : Int) (x162001_1 : List Int) (u162001 : Value), v8 = .int .i64 x8_1 ∧ Aside0 (spec_l8Round.l0 kq l2 x8_1 a0_0 l0_1 t155 x162001_1 = some (r1, r2)) ∧ Aside0 (kq ≤ k) ∧ Aside0 (Kd.R (Kd.int .i64) 3 w' w.heap.size (fun k_ => some k_ ≠ (u162001 : Value).ownBlock) (.slice Ao17 t155.length co17) t155) ∧ Aside0 (Kd.R (Kd.int .i64) 3 w' w.heap.size (fun k_ => some k_ ≠ ((.slice Ao17 t155.length co17) : Value).ownBlock) u162001 x162001_1) ∧ Aside0 (w'.heap[gb152]? = some (.cells #[.int .i64 a0_0, (.slice A0_1 l0_1.length c0_1)] 31 (0, 0))) ∧ Aside0 (w'.heap[gb153]? = some (.cells #[(.slice A1_0 l1_0.length c1_0), (.slice A1_1 l1_1.length c1_1)] 71 (0, 0))) ∧ Aside0 (w'.heap[gb154]? = some (.cells #[(.slice none 0 0), (.slice none 0 0)] 71 (0, 0))) ∧ Aside0 (w'.heap[gb161]? = some (.cells #[(.slice Ao17 t155.length co17), u162001] 71 (0, 0))) ∧ Aside0 (Below w.heap.size w w'))
 case atStart => exact ⟨(0), (t158), (.slice Ao16 t158.length co16), (by first | rfl | (simp;done) | (simp [*];done)), H', ⟨Nat.le_refl _⟩, ⟨by refine rP ?_;exact Kd.R_mono (Kd.R_far (p := ⟨gb161, 1, none⟩) (Kd.R_far (p := ⟨gb161, 0, none⟩) (Kd.R_types HO157.out BK161.out (by decide)) (fun _ hk => hk.2) (.slice Ao17 t155.length co17)) (fun _ hk => hk.2) (.slice Ao16 t158.length co16)) (fun _ hk => hk.1)⟩, ⟨by refine rP ?_;exact Kd.R_mono (Kd.R_far (p := ⟨gb161, 1, none⟩) (Kd.R_far (p := ⟨gb161, 0, none⟩) (Kd.R_types HO160.out BK161.out (by decide)) (fun _ hk => hk.2) (.slice Ao17 t155.length co17)) (fun _ hk => hk.2) (.slice Ao16 t158.length co16)) (fun _ hk => hk.1)⟩, ⟨by refine kP ?_;refine blk_far ?_ NB152_161.out _;refine kP ?_;refine blk_far ?_ NB152_161.out _;exact kP BK152.out⟩, ⟨by refine kP ?_;refine blk_far ?_ NB153_161.out _;refine kP ?_;refine blk_far ?_ NB153_161.out _;exact kP BK153.out⟩, ⟨by refine kP ?_;refine blk_far ?_ NB154_161.out _;refine kP ?_;refine blk_far ?_ NB154_161.out _;exact kP BK154.out⟩, ⟨by refine kP ?_;refine blk_put (cs := #[.slice Ao17 t155.length co17, .slice none 0 0]) ?_ 1 _ rfl;refine kP ?_;refine blk_put (cs := #[.slice none 0 0, .slice none 0 0]) ?_ 0 _ rfl;exact kP BK161.out⟩, ⟨by exact bB⟩⟩
 case round =>
  clear H'
  try clear c1
  try clear c2
  try clear p2
  try clear c7
  try clear c11
  obtain ⟨x8_1, x162001_1, u162001, rfl, HA, HK1, HO_162000, HO_162001, BK152, BK153, BK154, BK161, HB⟩ := hrel
  cases gk with
  | zero => exact absurd HA.out (by simp [spec_l8Round.l0])
  | succ k1 =>
   have H := HA.out
   clear HA
   simp only [spec_l8Round.l0] at H
   by_cases c20 : x8_1 < (l2.length : Int)
   ·rw [if_pos c20] at H
    have c20b0 : decide (x8_1 < (l2.length : Int)) = true := decide_eq_true c20
    clear c20
    by_cases c21 : 0 ≤ x8_1
    ·rw [if_pos c21] at H
     have c21b0 : decide (0 ≤ x8_1) = true := decide_eq_true c21
     clear c21
     replace H := Option.bind_eq_some_iff.mp H
     obtain ⟨t163, A220, H⟩ := H
     replace H : (spec_l8Round.l0 k1 l2 (wrap64 (x8_1 + 1)) a0_0 l0_1 t155 t163) = some (r1, r2) := H
     have A22 := Aside0.mk A220
     clear A220
     have H' := Aside0.mk H
     clear H
     try go_wp2
     have n0_ := Aside0.mk (Kd.R_drew HO_162000.out)
     have n1_ := Aside0.mk (Kd.R_drew HO_162001.out)
     have n2_ := Aside0.mk (blk_drew BK152.out)
     have n3_ := Aside0.mk (blk_drew BK153.out)
     have n4_ := Aside0.mk (blk_drew BK154.out)
     have n5_ := Aside0.mk (blk_drew BK161.out)
     have n6_ := Aside0.mk (below_drew1 HB.out)
     clear HO_162000
     clear HO_162001
     clear BK152
     clear BK153
     clear BK154
     clear BK161
     clear HB
     have HO_162000 := n0_
     have HO_162001 := n1_
     have BK152 := n2_
     have BK153 := n3_
     have BK154 := n4_
     have BK161 := n5_
     have HB := n6_
     clear n0_ n1_ n2_ n3_ n4_ n5_ n6_
     have p162 : 0 ≤ (x8_1 : Int) := oA
     have q162 : x8_1 < (l2.length : Int) := oA
     obtain ⟨ad162, e162, hx162_0⟩ := Kd.at_int HR2.out x8_1 p162 q162
     have hw162_0 := hx162_0
     cases e162
     replace hx162_0 := (HB.out.cell (World.block_lt_of_cell? w _ hx162_0)).trans hx162_0
     replace p162 := eq_true p162
     replace q162 := eq_true q162
     obtain ⟨Ao24, co24, eo24⟩ := Kd.R_slice HO_162001.out
     (first | subst eo24 | (injection eo24 with f1_ f2_ f3_;have f4_ := f1_.symm;have f5_ := f3_.symm;clear f1_ f2_ f3_;subst f4_;subst f5_))
     refine start_ (n := 9) (S := fun w' => w'.cell? ⟨gb161, 0, none⟩ = some (.slice Ao17 t155.length co17) ∧ w'.cell? ⟨gb161, 1, none⟩ = some (.slice Ao24 x162001_1.length co24) ∧ w'.cell? (ad162.add (x8_1).toNat) = some (.int .i64 (rd l2 x8_1))) (ds := [8]) #[false,false,false,false,false,false,false,false,false] (by kernel_rfl) rfl rfl ⟨(blk_cell BK161.out 0).trans rfl, (blk_cell BK161.out 1).trans rfl, ((HB.out.cell (World.block_lt_of_cell? w _ hw162_0)).trans hw162_0)⟩ (fun hHeld => ?_);refine with_tabW spec_l8Round.tab5 spec_l8Round.bits5 (fun HT_ HW_ => ?_)
     generalize wr.drew = w23 at HO_162000 HO_162001 BK152 BK153 BK154 BK161 HB hx162_0 hHeld ⊢
     refine pure_ (i := 0) (N := some 24) (v := ?_) (a' := ?_) #[true,false,false,false,false,false,false,false,false] rfl rfl (any_of HT_.out (by kernel_rfl)) (fun _ _ _ h => h) (Or.inl ⟨by rfl, ?_⟩) ?_ ?_
     rotate_left
     ·intro w'
      go_simp
      with_reducible rfl
     rotate_left
     ·simp only [Act.put, List.setIfInBounds_toArray, List.set_cons_zero, List.set_cons_succ, i64_w, i32_w]
      rfl
     refine pure_ (i := 2) (N := some 26) (v := ?_) (a' := ?_) #[true,false,true,false,false,false,false,false,false] rfl rfl (any_of HT_.out (by kernel_rfl)) (fun _ _ _ h => h) (Or.inl ⟨by rfl, ?_⟩) ?_ ?_
     rotate_left
     ·intro w'
      go_simp
      with_reducible rfl
     rotate_left
     ·simp only [Act.put, List.setIfInBounds_toArray, List.set_cons_zero, List.set_cons_succ, i64_w, i32_w]
      rfl
     refine pure_ (i := 3) (N := some 27) (v := ?_) (a' := ?_) #[true,false,true,true,false,false,false,false,false] rfl rfl (any_of HT_.out (by kernel_rfl)) (fun _ _ _ h => h) (Or.inl ⟨by rfl, ?_⟩) ?_ ?_
     rotate_left
     ·intro w'
      go_simp
      with_reducible rfl
     rotate_left
     ·simp only [Act.put, List.setIfInBounds_toArray, List.set_cons_zero, List.set_cons_succ, i64_w, i32_w]
      rfl
     refine pure_ (i := 4) (N := some 28) (v := ?_) (a' := ?_) #[true,false,true,true,true,false,false,false,false] rfl rfl (any_of HT_.out (by kernel_rfl)) (fun _ _ _ h => h) (Or.inl ⟨by rfl, ?_⟩) ?_ ?_
     rotate_left
     ·intro w'
      go_simp
      with_reducible rfl
     rotate_left
     ·simp only [Act.put, List.setIfInBounds_toArray, List.set_cons_zero, List.set_cons_succ, i64_w, i32_w]
      rfl
     refine take_ (i := 1) (N := some 25) (v := ?_) (a' := ?_) #[true,true,true,true,true,false,false,false,false] rfl rfl (take_ofW HT_.out HW_.out (by kernel_rfl)) (fun _ _ _ h => h) (Or.inl ⟨by rfl, ?_⟩) hHeld ?_ ?_
     rotate_left
     ·rintro w' ⟨s0, s1, s2⟩
      go_simp
      with_reducible rfl
     rotate_left
     ·simp only [Act.put, List.setIfInBounds_toArray, List.set_cons_zero, List.set_cons_succ, i64_w, i32_w]
      rfl
     refine take_ (i := 5) (N := some 29) (v := ?_) (a' := ?_) #[true,true,true,true,true,true,false,false,false] rfl rfl (take_ofW HT_.out HW_.out (by kernel_rfl)) (fun _ _ _ h => h) (Or.inl ⟨by rfl, ?_⟩) hHeld ?_ ?_
     rotate_left
     ·rintro w' ⟨s0, s1, s2⟩
      go_simp
      with_reducible rfl
     rotate_left
     ·simp only [Act.put, List.setIfInBounds_toArray, List.set_cons_zero, List.set_cons_succ, i64_w, i32_w]
      rfl
     refine one_ (i := 6) (N := some 30) #[true,true,true,true,true,true,true,false,false] rfl rfl (one_of HT_.out (by kernel_rfl)) (by decide) (fun K hK => ?_)
     refine goes_ Try.func144 (by kernel_rfl) rfl #[.slice Ao24 x162001_1.length co24, .int .i64 (rd l2 x8_1)] (by rfl) rfl rfl mM ?_
     with_reducible refine (spec_l1Put.calls (fun k_ => some k_ = (.slice Ao24 x162001_1.length co24 : Value).ownBlock) (.slice Ao24 x162001_1.length co24) x162001_1 (rd l2 x8_1) t163 w _ ?side1 ?side2 A22.out).mono ?_
     (case side1 => exact bB)
     (case side2 => exact Kd.R_tight rfl HO_162001.out)
     rintro e w25 ⟨v164, rfl, ho0, hb, hkp⟩
     refine ⟨_, rfl, ?_⟩
     have n0_ := Aside0.mk (Kd.R_mono (ok' := fun k_ => some k_ ≠ (v164 : Value).ownBlock) (Kd.R_keptB (HO_162000.out) hkp (fun k_ hk_ hs_ => (hk_) hs_)) (fun k_ hk_ => fun e_ => Or.elim (ho0.1 k_ e_.symm) (fun hs_ => hk_.2.1 hs_) (fun hn_ => Nat.not_le.2 hk_.2.2 hn_)))
     have n1_ := Aside0.mk (blk_kept (by exact kP BK152.out) hkp (fun hs_ => (fun e_ => (Kd.R_ne HO_162001.out BK152.out (by decide)) e_) hs_))
     have n2_ := Aside0.mk (blk_kept (by exact kP BK153.out) hkp (fun hs_ => (fun e_ => (Kd.R_ne HO_162001.out BK153.out (by decide)) e_) hs_))
     have n3_ := Aside0.mk (blk_kept (by exact kP BK154.out) hkp (fun hs_ => (fun e_ => (Kd.R_ne HO_162001.out BK154.out (by decide)) e_) hs_))
     have n4_ := Aside0.mk (blk_kept (by exact kP BK161.out) hkp (fun hs_ => (fun e_ => (Kd.R_ne HO_162001.out BK161.out (by decide)) e_) hs_))
     have n5_ := Aside0.mk (Kd.R_mono (ok' := fun k_ => some k_ ≠ (.slice Ao17 t155.length co17 : Value).ownBlock) ho0 (fun k_ hk_ => Or.elim hk_ (fun hs_ => fun e_ => (((HO_162000.out).1 k_ e_.symm)) hs_) (fun hn_ => (Kd.fresh' (Kd.R_lt (by exact rP HO_162000.out)) k_ hn_))))
     have n6_ := Aside0.mk (hb)
     clear HO_162000
     clear BK152
     clear BK153
     clear BK154
     clear BK161
     clear HB
     clear HO_162001
     have HO_162000 := n0_
     have BK152 := n1_
     have BK153 := n2_
     have BK154 := n3_
     have BK161 := n4_
     have HO165 := n5_
     have HB := n6_
     clear n0_ n1_ n2_ n3_ n4_ n5_ n6_
     (try clear hb)
     (try clear hkp)
     (try clear ho0)
     obtain ⟨Ao26, co26, eo26⟩ := Kd.R_slice HO165.out
     (first | subst eo26 | (injection eo26 with f1_ f2_ f3_;have f4_ := f1_.symm;have f5_ := f3_.symm;clear f1_ f2_ f3_;subst f4_;subst f5_))
     refine hK.out _ _ ⟨(blk_cell BK161.out 0).trans rfl, (blk_cell BK161.out 1).trans rfl, ((HB.out.cell (World.block_lt_of_cell? w _ hw162_0)).trans hw162_0)⟩ (fun hHeld => ?_)
     clear hK K
     refine norm_ (a' := ?_) ?_ ?_
     rotate_left
     ·show Act.put _ (some 30) _ = _
      simp only [Act.put, List.setIfInBounds_toArray, List.set_cons_zero, List.set_cons_succ, i64_w, i32_w]
      rfl
     refine pure_ (i := 7) (N := some 31) (v := ?_) (a' := ?_) #[true,true,true,true,true,true,true,true,false] rfl rfl (any_of HT_.out (by kernel_rfl)) (fun _ _ _ h => h) (Or.inl ⟨by rfl, ?_⟩) ?_ ?_
     rotate_left
     ·intro w'
      go_simp
      with_reducible rfl
     rotate_left
     ·simp only [Act.put, List.setIfInBounds_toArray, List.set_cons_zero, List.set_cons_succ, i64_w, i32_w]
      rfl
     refine last_ (i := 8) (N := none) #[true,true,true,true,true,true,true,true,true] rfl rfl (one_of HT_.out (by kernel_rfl)) (by decide) (fun K hK => ?_)
     have hs27 : w25.cell? ⟨gb161, 1, none⟩ = some (.slice Ao24 x162001_1.length co24) := (blk_cell BK161.out 1).trans rfl
     have hfs27 := blk_frozen BK161.out 1
     have hns27_0 := NB152_161.out
     have hns27_1 := NB153_161.out
     have hns27_2 := NB154_161.out
     have hms27_0 := NB161_152.out
     have hms27_1 := NB161_153.out
     have hms27_2 := NB161_154.out
     refine skip_ (w1 := ?_) (by rfl) rfl ?_ ?_
     rotate_left
     ·go_simp
      rfl
     refine hK.out _ _ ?_
     clear hK K
     refine done_ (done_of HT_.out (by kernel_rfl)) ?_
     try go_wp2
     go_roundg k1
     case measure => have := HK1.out;omega
     case rel => exact ⟨(wrap64 (x8_1 + 1)), (t163), (.slice Ao26 t163.length co26), (by first | rfl | (simp;done) | (simp [*];done)), H', ⟨by have := HK1.out;omega⟩, ⟨by refine rP ?_;exact Kd.R_mono (Kd.R_far (p := ⟨gb161, 1, none⟩) (Kd.R_types HO_162000.out BK161.out (by decide)) (fun _ hk => hk.2) (.slice Ao26 t163.length co26)) (fun _ hk => hk.1)⟩, ⟨by refine rP ?_;exact Kd.R_mono (Kd.R_far (p := ⟨gb161, 1, none⟩) (Kd.R_types HO165.out BK161.out (by decide)) (fun _ hk => hk.2) (.slice Ao26 t163.length co26)) (fun _ hk => hk.1)⟩, ⟨by refine kP ?_;refine blk_far ?_ NB152_161.out _;exact kP BK152.out⟩, ⟨by refine kP ?_;refine blk_far ?_ NB153_161.out _;exact kP BK153.out⟩, ⟨by refine kP ?_;refine blk_far ?_ NB154_161.out _;exact kP BK154.out⟩, ⟨by refine kP ?_;refine blk_put (cs := #[.slice Ao17 t155.length co17, .slice Ao24 x162001_1.length co24]) ?_ 1 _ rfl;exact kP BK161.out⟩, ⟨by exact bB⟩⟩
    ·rw [if_neg c21] at H
     exact absurd H (by simp)
   ·rw [if_neg c20] at H
    have c20b0 : decide (x8_1 < (l2.length : Int)) = false := decide_eq_false c20
    clear c20
    replace H := Option.bind_eq_some_iff.mp H
    obtain ⟨t166, A280, H⟩ := H
    replace H : (spec_l8Round.l1 k1 t166 0 t155 x162001_1) = some (r1, r2) := H
    have A28 := Aside0.mk A280
    clear A280
    have H' := Aside0.mk H
    clear H
    have hnb29 := NB152_153.out
    have hnc29 := NB153_152.out
    have hnb30 := NB152_154.out
    have hnc30 := NB154_152.out
    have hnb31 := NB152_161.out
    have hnc31 := NB161_152.out
    have hcz32_0 : wr.cell? ⟨gb152, 0, none⟩ = some (.int .i64 a0_0) := (blk_cell BK152.out 0).trans rfl
    have hcz32_1 : wr.cell? ⟨gb152, 1, none⟩ = some (.slice A0_1 l0_1.length c0_1) := (blk_cell BK152.out 1).trans rfl
    have hfz32_0 := blk_frozen BK152.out 0
    have hfz32_1 := blk_frozen BK152.out 1
    have hnb33 := NB161_153.out
    have hnc33 := NB153_161.out
    have hnb34 := NB161_154.out
    have hnc34 := NB154_161.out
    have hcz35_0 : wr.cell? ⟨gb161, 0, none⟩ = some (.slice Ao17 t155.length co17) := (blk_cell BK161.out 0).trans rfl
    have hcz35_1 : wr.cell? ⟨gb161, 1, none⟩ = some (u162001) := (blk_cell BK161.out 1).trans rfl
    have hfz35_0 := blk_frozen BK161.out 0
    have hfz35_1 := blk_frozen BK161.out 1
    obtain ⟨Ao36, co36, eo36⟩ := Kd.R_slice HO_162001.out
    subst eo36
    go_wp2_with (first | ((with_reducible refine gate_callee (f := 119) rfl ?_);refine goesL_ (some 34) rfl rfl Try.func119 (by kernel_rfl) rfl #[.agg #[.int .i64 a0_0, .slice A0_1 l0_1.length c0_1], .agg #[.slice Ao17 t155.length co17, .slice Ao36 x162001_1.length co36]] rfl mM ?_;(with_reducible refine (spec_l8Next.calls k1 a0_0 _ _ l0_1 _ _ t155 _ _ x162001_1 t166 _ ?side1 ?side2 ?side3 ?side4 ?side5 ?side6 A28.out).mono ?_);(case side1 => exact cP (Kd.C_below HR0_1.out HB.out));(case side2 => exact HC0_1.out);(case side3 => exact cP (Kd.R_reads' HO_162000.out).2.2);(case side4 => exact (Kd.R_reads' HO_162000.out).2.1);(case side5 => exact cP (Kd.R_reads' HO_162001.out).2.2);(case side6 => exact (Kd.R_reads' HO_162001.out).2.1);rintro e w37 ⟨v167, rfl, ho0, hb⟩;refine ⟨_, rfl, ?_⟩;have n0_ := Aside0.mk (Kd.R_elder' (by exact rP HO_162000.out) (Kd.R_base ho0) hb);have n1_ := Aside0.mk (Kd.R_elder' (by exact rP HO_162001.out) (Kd.R_base ho0) hb);have n2_ := Aside0.mk (Kd.R_lower (Kd.R_new' (Kd.R_new' ho0 (Kd.R_lt (by exact rP HO_162000.out))) (Kd.R_lt (by exact rP HO_162001.out))) (below_size (by exact bB)));have n3_ := Aside0.mk (blk_below (g := gb152) (o := .cells #[.int .i64 a0_0, .slice A0_1 l0_1.length c0_1] 31 (0, 0)) (by exact kP BK152.out) hb);have n4_ := Aside0.mk (blk_below (g := gb153) (o := .cells #[.slice A1_0 l1_0.length c1_0, .slice A1_1 l1_1.length c1_1] 71 (0, 0)) (by exact kP BK153.out) hb);have n5_ := Aside0.mk (blk_below (g := gb154) (o := .cells #[.slice none 0 0, .slice none 0 0] 71 (0, 0)) (by exact kP BK154.out) hb);have n6_ := Aside0.mk (blk_below (g := gb161) (o := .cells #[.slice Ao17 t155.length co17, .slice Ao36 x162001_1.length co36] 71 (0, 0)) (by exact kP BK161.out) hb);have n7_ := Aside0.mk (below_step (by exact bB) hb);clear HO_162000;clear HO_162001;clear BK152;clear BK153;clear BK154;clear BK161;clear HB;have HO_162000 := n0_;have HO_162001 := n1_;have HO168 := n2_;have BK152 := n3_;have BK153 := n4_;have BK154 := n5_;have BK161 := n6_;have HB := n7_;clear n0_ n1_ n2_ n3_ n4_ n5_ n6_ n7_;(try clear hb);(try clear hb2);(try clear hk);(try clear hi);(try clear ho0)))
    go_loopg [10] k1 (fun kq v10 w' => ∃ (x10_2 : Int) (x162000_2 : List Int) (u162000 : Value), v10 = .int .i64 x10_2 ∧ Aside0 (spec_l8Round.l1 kq t166 x10_2 x162000_2 x162001_1 = some (r1, r2)) ∧ Aside0 (kq ≤ k1) ∧ Aside0 (Kd.R (Kd.int .i64) 3 w' w.heap.size (fun k_ => some k_ ≠ (u162000 : Value).ownBlock ∧ some k_ ≠ ((.slice Ao36 x162001_1.length co36) : Value).ownBlock) v167 t166) ∧ Aside0 (Kd.R (Kd.int .i64) 3 w' w.heap.size (fun k_ => some k_ ≠ (v167 : Value).ownBlock ∧ some k_ ≠ ((.slice Ao36 x162001_1.length co36) : Value).ownBlock) u162000 x162000_2) ∧ Aside0 (Kd.R (Kd.int .i64) 3 w' w.heap.size (fun k_ => some k_ ≠ (v167 : Value).ownBlock ∧ some k_ ≠ (u162000 : Value).ownBlock) (.slice Ao36 x162001_1.length co36) x162001_1) ∧ Aside0 (w'.heap[gb152]? = some (.cells #[.int .i64 a0_0, (.slice A0_1 l0_1.length c0_1)] 31 (0, 0))) ∧ Aside0 (w'.heap[gb153]? = some (.cells #[(.slice A1_0 l1_0.length c1_0), (.slice A1_1 l1_1.length c1_1)] 71 (0, 0))) ∧ Aside0 (w'.heap[gb154]? = some (.cells #[(.slice none 0 0), (.slice none 0 0)] 71 (0, 0))) ∧ Aside0 (w'.heap[gb161]? = some (.cells #[u162000, (.slice Ao36 x162001_1.length co36)] 71 (0, 0))) ∧ Aside0 (Below w.heap.size w w'))
    case atStart => exact ⟨(0), (t155), (.slice Ao17 t155.length co17), (by first | rfl | (simp;done) | (simp [*];done)), H', ⟨Nat.le_refl _⟩, ⟨by refine rP ?_;exact Kd.R_mono HO168.out (fun _ hk => ⟨hk.1.2, hk.2⟩)⟩, ⟨by refine rP ?_;exact Kd.R_mono HO_162000.out (fun _ hk => ⟨hk.2, hk.1⟩)⟩, ⟨by refine rP ?_;exact Kd.R_mono HO_162001.out (fun _ hk => ⟨hk.2, hk.1⟩)⟩, ⟨by exact kP BK152.out⟩, ⟨by exact kP BK153.out⟩, ⟨by exact kP BK154.out⟩, ⟨by exact kP BK161.out⟩, ⟨by exact bB⟩⟩
    case round =>
     clear H'
     try clear c1
     try clear p1
     try clear q1
     try clear hx1
     try clear c2
     try clear p2
     try clear c3
     try clear p6
     try clear c7
     try clear c11
     try clear c14
     try clear p16
     try clear q16
     try clear hx16
     try clear c20
     try clear c20b0
     try clear c21
     try clear c21b0
     try clear c29
     try clear c30
     try clear c31
     try clear c33
     try clear c34
     try clear hcz32_0
     try clear hcz32_1
     try clear hcz35_0
     try clear hcz35_1
     try clear hfz32_0
     try clear hfz32_1
     try clear hfz35_0
     try clear hfz35_1
     try clear hx162_0
     try clear p162
     try clear p2
     try clear q162
     obtain ⟨x10_2, x162000_2, u162000, rfl, HA, HK2, HO_9, HO_162000, HO_162001, BK152, BK153, BK154, BK161, HB⟩ := hrel
     cases gk with
     | zero => exact absurd HA.out (by simp [spec_l8Round.l1])
     | succ k2 =>
      have H := HA.out
      clear HA
      simp only [spec_l8Round.l1] at H
      by_cases c38 : x10_2 < (t166.length : Int)
      ·rw [if_pos c38] at H
       have c38b0 : decide (x10_2 < (t166.length : Int)) = true := decide_eq_true c38
       clear c38
       by_cases c39 : 0 ≤ x10_2
       ·rw [if_pos c39] at H
        have c39b0 : decide (0 ≤ x10_2) = true := decide_eq_true c39
        clear c39
        replace H := Option.bind_eq_some_iff.mp H
        obtain ⟨t170, A400, H⟩ := H
        replace H : (spec_l8Round.l1 k2 t166 (wrap64 (x10_2 + 1)) t170 x162001_1) = some (r1, r2) := H
        have A40 := Aside0.mk A400
        clear A400
        have H' := Aside0.mk H
        clear H
        obtain ⟨Ao41, co41, eo41⟩ := Kd.R_slice HO_9.out
        subst eo41
        try go_wp2
        have n0_ := Aside0.mk (Kd.R_drew HO_9.out)
        have n1_ := Aside0.mk (Kd.R_drew HO_162000.out)
        have n2_ := Aside0.mk (Kd.R_drew HO_162001.out)
        have n3_ := Aside0.mk (blk_drew BK152.out)
        have n4_ := Aside0.mk (blk_drew BK153.out)
        have n5_ := Aside0.mk (blk_drew BK154.out)
        have n6_ := Aside0.mk (blk_drew BK161.out)
        have n7_ := Aside0.mk (below_drew1 HB.out)
        clear HO_9
        clear HO_162000
        clear HO_162001
        clear BK152
        clear BK153
        clear BK154
        clear BK161
        clear HB
        have HO_9 := n0_
        have HO_162000 := n1_
        have HO_162001 := n2_
        have BK152 := n3_
        have BK153 := n4_
        have BK154 := n5_
        have BK161 := n6_
        have HB := n7_
        clear n0_ n1_ n2_ n3_ n4_ n5_ n6_ n7_
        have p169 : 0 ≤ (x10_2 : Int) := oA
        have q169 : x10_2 < (t166.length : Int) := oA
        obtain ⟨ad169, e169, hx169_0⟩ := Kd.at_int (Kd.R_reads' HO_9.out).2.2 x10_2 p169 q169
        cases e169
        replace p169 := eq_true p169
        replace q169 := eq_true q169
        obtain ⟨Ao43, co43, eo43⟩ := Kd.R_slice HO_162000.out
        (first | subst eo43 | (injection eo43 with f1_ f2_ f3_;have f4_ := f1_.symm;have f5_ := f3_.symm;clear f1_ f2_ f3_;subst f4_;subst f5_))
        refine start_ (n := 9) (S := fun w' => w'.cell? ⟨gb161, 0, none⟩ = some (.slice Ao43 x162000_2.length co43) ∧ w'.cell? ⟨gb161, 1, none⟩ = some (.slice Ao36 x162001_1.length co36) ∧ w'.cell? (ad169.add (x10_2).toNat) = some (.int .i64 (rd t166 x10_2))) (ds := [8]) #[false,false,false,false,false,false,false,false,false] (by kernel_rfl) rfl rfl ⟨(blk_cell BK161.out 0).trans rfl, (blk_cell BK161.out 1).trans rfl, hx169_0⟩ (fun hHeld => ?_);refine with_tabW spec_l8Round.tab10 spec_l8Round.bits10 (fun HT_ HW_ => ?_)
        generalize wr.drew = w42 at HO_9 HO_162000 HO_162001 BK152 BK153 BK154 BK161 HB hx169_0 hHeld ⊢
        refine pure_ (i := 0) (N := some 41) (v := ?_) (a' := ?_) #[true,false,false,false,false,false,false,false,false] rfl rfl (any_of HT_.out (by kernel_rfl)) (fun _ _ _ h => h) (Or.inl ⟨by rfl, ?_⟩) ?_ ?_
        rotate_left
        ·intro w'
         go_simp
         with_reducible rfl
        rotate_left
        ·simp only [Act.put, List.setIfInBounds_toArray, List.set_cons_zero, List.set_cons_succ, i64_w, i32_w]
         rfl
        refine pure_ (i := 2) (N := some 43) (v := ?_) (a' := ?_) #[true,false,true,false,false,false,false,false,false] rfl rfl (any_of HT_.out (by kernel_rfl)) (fun _ _ _ h => h) (Or.inl ⟨by rfl, ?_⟩) ?_ ?_
        rotate_left
        ·intro w'
         go_simp
         with_reducible rfl
        rotate_left
        ·simp only [Act.put, List.setIfInBounds_toArray, List.set_cons_zero, List.set_cons_succ, i64_w, i32_w]
         rfl
        refine pure_ (i := 3) (N := some 44) (v := ?_) (a' := ?_) #[true,false,true,true,false,false,false,false,false] rfl rfl (any_of HT_.out (by kernel_rfl)) (fun _ _ _ h => h) (Or.inl ⟨by rfl, ?_⟩) ?_ ?_
        rotate_left
        ·intro w'
         go_simp
         with_reducible rfl
        rotate_left
        ·simp only [Act.put, List.setIfInBounds_toArray, List.set_cons_zero, List.set_cons_succ, i64_w, i32_w]
         rfl
        refine pure_ (i := 4) (N := some 45) (v := ?_) (a' := ?_) #[true,false,true,true,true,false,false,false,false] rfl rfl (any_of HT_.out (by kernel_rfl)) (fun _ _ _ h => h) (Or.inl ⟨by rfl, ?_⟩) ?_ ?_
        rotate_left
        ·intro w'
         go_simp
         with_reducible rfl
        rotate_left
        ·simp only [Act.put, List.setIfInBounds_toArray, List.set_cons_zero, List.set_cons_succ, i64_w, i32_w]
         rfl
        refine take_ (i := 1) (N := some 42) (v := ?_) (a' := ?_) #[true,true,true,true,true,false,false,false,false] rfl rfl (take_ofW HT_.out HW_.out (by kernel_rfl)) (fun _ _ _ h => h) (Or.inl ⟨by rfl, ?_⟩) hHeld ?_ ?_
        rotate_left
        ·rintro w' ⟨s0, s1, s2⟩
         go_simp
         with_reducible rfl
        rotate_left
        ·simp only [Act.put, List.setIfInBounds_toArray, List.set_cons_zero, List.set_cons_succ, i64_w, i32_w]
         rfl
        refine take_ (i := 5) (N := some 46) (v := ?_) (a' := ?_) #[true,true,true,true,true,true,false,false,false] rfl rfl (take_ofW HT_.out HW_.out (by kernel_rfl)) (fun _ _ _ h => h) (Or.inl ⟨by rfl, ?_⟩) hHeld ?_ ?_
        rotate_left
        ·rintro w' ⟨s0, s1, s2⟩
         go_simp
         with_reducible rfl
        rotate_left
        ·simp only [Act.put, List.setIfInBounds_toArray, List.set_cons_zero, List.set_cons_succ, i64_w, i32_w]
         rfl
        refine one_ (i := 6) (N := some 47) #[true,true,true,true,true,true,true,false,false] rfl rfl (one_of HT_.out (by kernel_rfl)) (by decide) (fun K hK => ?_)
        refine goes_ Try.func144 (by kernel_rfl) rfl #[.slice Ao43 x162000_2.length co43, .int .i64 (rd t166 x10_2)] (by rfl) rfl rfl mM ?_
        with_reducible refine (spec_l1Put.calls (fun k_ => some k_ = (.slice Ao43 x162000_2.length co43 : Value).ownBlock) (.slice Ao43 x162000_2.length co43) x162000_2 (rd t166 x10_2) t170 w _ ?side1 ?side2 A40.out).mono ?_
        (case side1 => exact bB)
        (case side2 => exact Kd.R_tight rfl HO_162000.out)
        rintro e w44 ⟨v171, rfl, ho0, hb, hkp⟩
        have HS2_ := cell_kept (hHeld.2.2) hkp (by first | (rw [add_block];exact (fun hs_ => (((HO_9.out).1 _ rfl).1) hs_)) | (show ¬ _;simp only [add_block];exact (fun hs_ => (((HO_9.out).1 _ rfl).1) hs_)) | exact (fun hs_ => (((HO_9.out).1 _ rfl).1) hs_))
        refine ⟨_, rfl, ?_⟩
        have n0_ := Aside0.mk (Kd.R_mono (ok' := fun k_ => some k_ ≠ (.slice Ao36 x162001_1.length co36 : Value).ownBlock ∧ some k_ ≠ (v171 : Value).ownBlock) (Kd.R_keptB (HO_9.out) hkp (fun k_ hk_ hs_ => (hk_.1) hs_)) (fun k_ hk_ => ⟨hk_.1.2, fun e_ => Or.elim (ho0.1 k_ e_.symm) (fun hs_ => hk_.2.1 hs_) (fun hn_ => Nat.not_le.2 hk_.2.2 hn_)⟩))
        have n1_ := Aside0.mk (Kd.R_mono (ok' := fun k_ => some k_ ≠ (.slice (some ad169) t166.length co41 : Value).ownBlock ∧ some k_ ≠ (v171 : Value).ownBlock) (Kd.R_keptB (HO_162001.out) hkp (fun k_ hk_ hs_ => (hk_.2) hs_)) (fun k_ hk_ => ⟨hk_.1.1, fun e_ => Or.elim (ho0.1 k_ e_.symm) (fun hs_ => hk_.2.1 hs_) (fun hn_ => Nat.not_le.2 hk_.2.2 hn_)⟩))
        have n2_ := Aside0.mk (blk_kept (by exact kP BK152.out) hkp (fun hs_ => (fun e_ => (Kd.R_ne HO_162000.out BK152.out (by decide)) e_) hs_))
        have n3_ := Aside0.mk (blk_kept (by exact kP BK153.out) hkp (fun hs_ => (fun e_ => (Kd.R_ne HO_162000.out BK153.out (by decide)) e_) hs_))
        have n4_ := Aside0.mk (blk_kept (by exact kP BK154.out) hkp (fun hs_ => (fun e_ => (Kd.R_ne HO_162000.out BK154.out (by decide)) e_) hs_))
        have n5_ := Aside0.mk (blk_kept (by exact kP BK161.out) hkp (fun hs_ => (fun e_ => (Kd.R_ne HO_162000.out BK161.out (by decide)) e_) hs_))
        have n6_ := Aside0.mk (Kd.R_mono (ok' := fun k_ => some k_ ≠ (.slice (some ad169) t166.length co41 : Value).ownBlock ∧ some k_ ≠ (.slice Ao36 x162001_1.length co36 : Value).ownBlock) ho0 (fun k_ hk_ => ⟨Or.elim hk_ (fun hs_ => fun e_ => (((HO_9.out).1 k_ e_.symm).1) hs_) (fun hn_ => (Kd.fresh' (Kd.R_lt (by exact rP HO_9.out)) k_ hn_)), Or.elim hk_ (fun hs_ => fun e_ => (((HO_162001.out).1 k_ e_.symm).2) hs_) (fun hn_ => (Kd.fresh' (Kd.R_lt (by exact rP HO_162001.out)) k_ hn_))⟩))
        have n7_ := Aside0.mk (hb)
        clear HO_9
        clear HO_162001
        clear BK152
        clear BK153
        clear BK154
        clear BK161
        clear HB
        clear HO_162000
        have HO_9 := n0_
        have HO_162001 := n1_
        have BK152 := n2_
        have BK153 := n3_
        have BK154 := n4_
        have BK161 := n5_
        have HO172 := n6_
        have HB := n7_
        clear n0_ n1_ n2_ n3_ n4_ n5_ n6_ n7_
        (try clear hb)
        (try clear hkp)
        (try clear ho0)
        obtain ⟨Ao45, co45, eo45⟩ := Kd.R_slice HO172.out
        (first | subst eo45 | (injection eo45 with f1_ f2_ f3_;have f4_ := f1_.symm;have f5_ := f3_.symm;clear f1_ f2_ f3_;subst f4_;subst f5_))
        refine hK.out _ _ ⟨(blk_cell BK161.out 0).trans rfl, (blk_cell BK161.out 1).trans rfl, HS2_⟩ (fun hHeld => ?_)
        clear hK K
        refine norm_ (a' := ?_) ?_ ?_
        rotate_left
        ·show Act.put _ (some 47) _ = _
         simp only [Act.put, List.setIfInBounds_toArray, List.set_cons_zero, List.set_cons_succ, i64_w, i32_w]
         rfl
        refine pure_ (i := 7) (N := some 48) (v := ?_) (a' := ?_) #[true,true,true,true,true,true,true,true,false] rfl rfl (any_of HT_.out (by kernel_rfl)) (fun _ _ _ h => h) (Or.inl ⟨by rfl, ?_⟩) ?_ ?_
        rotate_left
        ·intro w'
         go_simp
         with_reducible rfl
        rotate_left
        ·simp only [Act.put, List.setIfInBounds_toArray, List.set_cons_zero, List.set_cons_succ, i64_w, i32_w]
         rfl
        refine last_ (i := 8) (N := none) #[true,true,true,true,true,true,true,true,true] rfl rfl (one_of HT_.out (by kernel_rfl)) (by decide) (fun K hK => ?_)
        have hs46 : w44.cell? ⟨gb161, 0, none⟩ = some (.slice Ao43 x162000_2.length co43) := (blk_cell BK161.out 0).trans rfl
        have hfs46 := blk_frozen BK161.out 0
        have hns46_0 := NB152_161.out
        have hns46_1 := NB153_161.out
        have hns46_2 := NB154_161.out
        have hms46_0 := NB161_152.out
        have hms46_1 := NB161_153.out
        have hms46_2 := NB161_154.out
        refine skip_ (w1 := ?_) (by rfl) rfl ?_ ?_
        rotate_left
        ·go_simp
         rfl
        refine hK.out _ _ ?_
        clear hK K
        refine done_ (done_of HT_.out (by kernel_rfl)) ?_
        try go_wp2
        go_roundg k2
        case measure => have := HK1.out;have := HK2.out;omega
        case rel => exact ⟨(wrap64 (x10_2 + 1)), (t170), (.slice Ao45 t170.length co45), (by first | rfl | (simp;done) | (simp [*];done)), H', ⟨by have := HK1.out;have := HK2.out;omega⟩, ⟨by refine rP ?_;exact Kd.R_mono (Kd.R_far (p := ⟨gb161, 0, none⟩) (Kd.R_types HO_9.out BK161.out (by decide)) (fun _ hk => hk.2) (.slice Ao45 t170.length co45)) (fun _ hk => ⟨hk.1.2, hk.1.1⟩)⟩, ⟨by refine rP ?_;exact Kd.R_mono (Kd.R_far (p := ⟨gb161, 0, none⟩) (Kd.R_types HO172.out BK161.out (by decide)) (fun _ hk => hk.2) (.slice Ao45 t170.length co45)) (fun _ hk => ⟨hk.1.1, hk.1.2⟩)⟩, ⟨by refine rP ?_;exact Kd.R_mono (Kd.R_far (p := ⟨gb161, 0, none⟩) (Kd.R_types HO_162001.out BK161.out (by decide)) (fun _ hk => hk.2) (.slice Ao45 t170.length co45)) (fun _ hk => ⟨hk.1.1, hk.1.2⟩)⟩, ⟨by refine kP ?_;refine blk_far ?_ NB152_161.out _;exact kP BK152.out⟩, ⟨by refine kP ?_;refine blk_far ?_ NB153_161.out _;exact kP BK153.out⟩, ⟨by refine kP ?_;refine blk_far ?_ NB154_161.out _;exact kP BK154.out⟩, ⟨by refine kP ?_;refine blk_put (cs := #[.slice Ao43 x162000_2.length co43, .slice Ao36 x162001_1.length co36]) ?_ 0 _ rfl;exact kP BK161.out⟩, ⟨by exact bB⟩⟩
       ·rw [if_neg c39] at H
        exact absurd H (by simp)
      ·rw [if_neg c38] at H
       have c38b0 : decide (x10_2 < (t166.length : Int)) = false := decide_eq_false c38
       clear c38
       simp only [Option.some.injEq, Prod.mk.injEq] at H
       obtain ⟨rfl, rfl⟩ := H
       obtain ⟨Ao47, co47, eo47⟩ := Kd.R_slice HO_9.out
       subst eo47
       have hnb48 := NB161_152.out
       have hnc48 := NB152_161.out
       have hnb49 := NB161_153.out
       have hnc49 := NB153_161.out
       have hnb50 := NB161_154.out
       have hnc50 := NB154_161.out
       have hcz51_0 : wr.cell? ⟨gb161, 0, none⟩ = some (u162000) := (blk_cell BK161.out 0).trans rfl
       have hcz51_1 : wr.cell? ⟨gb161, 1, none⟩ = some (.slice Ao36 x162001_1.length co36) := (blk_cell BK161.out 1).trans rfl
       have hfz51_0 := blk_frozen BK161.out 0
       have hfz51_1 := blk_frozen BK161.out 1
       obtain ⟨Ao52, co52, eo52⟩ := Kd.R_slice HO_162000.out
       subst eo52
       have hnb53 := NB154_152.out
       have hnc53 := NB152_154.out
       have hnb54 := NB154_153.out
       have hnc54 := NB153_154.out
       have hcz55_0 : wr.cell? ⟨gb154, 0, none⟩ = some (.slice none 0 0) := (blk_cell BK154.out 0).trans rfl
       have hcz55_1 : wr.cell? ⟨gb154, 1, none⟩ = some (.slice none 0 0) := (blk_cell BK154.out 1).trans rfl
       have hfz55_0 := blk_frozen BK154.out 0
       have hfz55_1 := blk_frozen BK154.out 1
       go_wp2
       refine bodyPost_ret (results_cell_row rfl _ _ gb154 71 #[.slice Ao52 x162000_2.length co52, .slice Ao36 x162001_1.length co36] (0, 0) _ rfl (by refine kP ?_;refine blk_put (cs := #[.slice Ao52 x162000_2.length co52, .slice none 0 0]) ?_ 1 _ rfl;refine kP ?_;refine blk_put (cs := #[.slice none 0 0, .slice none 0 0]) ?_ 0 _ rfl;exact kP BK154.out) Try.underlying71 rfl (by kernel_rfl)) rfl ?_
       exact ⟨_, _, by first | rfl | (simp [errW_none, errW_some] <;> rfl) | (simp [*, errW_none, errW_some] <;> rfl), by refine rP ?_;exact Kd.R_mono (Kd.R_far (p := ⟨gb154, 1, none⟩) (Kd.R_far (p := ⟨gb154, 0, none⟩) (Kd.R_types HO_162000.out BK154.out (by decide)) (fun _ hk => hk.2) (.slice Ao52 x162000_2.length co52)) (fun _ hk => hk.2) (.slice Ao36 x162001_1.length co36)) (fun _ hk => hk.1.2), by refine rP ?_;exact Kd.R_mono (Kd.R_far (p := ⟨gb154, 1, none⟩) (Kd.R_far (p := ⟨gb154, 0, none⟩) (Kd.R_types HO_162001.out BK154.out (by decide)) (fun _ hk => hk.2) (.slice Ao52 x162000_2.length co52)) (fun _ hk => hk.2) (.slice Ao36 x162001_1.length co36)) (fun _ hk => hk.1.2), by exact bB⟩




end Go.Proofs.Ytmokkhfmbenleaa.QSavedNodes
