import Derived.Test.YtmokkhfmbenleaaQBurningSets0
import Derived.Test.YtmokkhfmbenleaaQBurningSets5
import Derived.Test.YtmokkhfmbenleaaQBurningSets7
import Derived.Test.YtmokkhfmbenleaaQBurningSets8
namespace Go.Proofs.Ytmokkhfmbenleaa.QBurningSets
open Go.RowKit Go.Proofs.YtmokkhfmbenleaaW.PrintWords Go.Proofs.YtmokkhfmbenleaaW.PrintLast Go.Proofs.YtmokkhfmbenleaaW.PrintMore
attribute [local go_sem] max2_int min2_int max_two min_two max_three min_three max_four min_four   -- for this text's walks alone
set_option linter.unusedVariables false
set_option linter.unusedSimpArgs false
/-! ### spec_l8Round: function 118 -/
mutual
def spec_l8Round.l0 : Nat → List Int → Int → Int → List (S119) → List Int → List Int → Option (List Int × List Int)
 | 0, _, _, _, _, _, _ => none
 | k + 1, x2, x8, x203000, x203001, x212000, x212001 => if x8 < (x2.length : Int) then (if 0 ≤ x8 then ((spec_l1Put.f x212001 (rd x2 x8)).bind fun t213 => (spec_l8Round.l0 k x2 (wrap64 (x8 + 1)) x203000 x203001 x212000 t213)) else (none)) else ((spec_l8Next.f k x203000 x203001 x212000 x212001).bind fun t216 => (spec_l8Round.l1 k t216 0 x212000 x212001))
def spec_l8Round.l1 : Nat → List Int → Int → List Int → List Int → Option (List Int × List Int)
 | 0, _, _, _, _ => none
 | k + 1, x9, x10, x212000, x212001 => if x10 < (x9.length : Int) then (if 0 ≤ x10 then ((spec_l1Put.f x212000 (rd x9 x10)).bind fun t220 => (spec_l8Round.l1 k x9 (wrap64 (x10 + 1)) t220 x212001)) else (none)) else (some (x212000, x212001))
end
def spec_l8Round.f (k : Nat) (a0_0 : Int) (l0_1 : List (S119)) (l1_0 : List Int) (l1_1 : List Int) (l2 : List Int) : Option (List Int × List Int) := (spec_l1Own.f l1_0).bind fun t205 => ((spec_l1Own.f l1_1).bind fun t208 => (spec_l8Round.l0 k l2 0 a0_0 l0_1 t205 t208))
theorem spec_l8Round.mono_l : ∀ k, (∀ y0 y1 y2 y3 y4 y5, LeO (spec_l8Round.l0 k y0 y1 y2 y3 y4 y5) (spec_l8Round.l0 (k + 1) y0 y1 y2 y3 y4 y5)) ∧ (∀ y0 y1 y2 y3, LeO (spec_l8Round.l1 k y0 y1 y2 y3) (spec_l8Round.l1 (k + 1) y0 y1 y2 y3))
 | 0 => ⟨fun _ _ _ _ _ _ r h => by simp [spec_l8Round.l0] at h, fun _ _ _ _ r h => by simp [spec_l8Round.l1] at h⟩
 | k + 1 => by
  obtain ⟨ih0, ih1⟩ := spec_l8Round.mono_l k
  refine ⟨?_, ?_⟩
  ·intro y0 y1 y2 y3 y4 y5
   unfold spec_l8Round.l0
   repeat' first
   | (with_reducible exact ih0 _ _ _ _ _ _)
   | (with_reducible exact ih1 _ _ _ _)
   | (with_reducible exact spec_l8Next.mono _ _ _ _ _)
   | (with_reducible exact LeO.refl _)
   | (with_reducible exact LeO.none _)
   | (with_reducible refine LeO.ite ?_ ?_)
   | (with_reducible refine LeO.bind ?_ (fun _ => ?_))
   | exact ih0 _ _ _ _ _ _
   | exact ih1 _ _ _ _
   | exact spec_l8Next.mono _ _ _ _ _
   | exact LeO.none _
   | refine LeO.ite ?_ ?_
   | refine LeO.bind ?_ (fun _ => ?_)
  ·intro y0 y1 y2 y3
   unfold spec_l8Round.l1
   repeat' first
   | (with_reducible exact ih0 _ _ _ _ _ _)
   | (with_reducible exact ih1 _ _ _ _)
   | (with_reducible exact spec_l8Next.mono _ _ _ _ _)
   | (with_reducible exact LeO.refl _)
   | (with_reducible exact LeO.none _)
   | (with_reducible refine LeO.ite ?_ ?_)
   | (with_reducible refine LeO.bind ?_ (fun _ => ?_))
   | exact ih0 _ _ _ _ _ _
   | exact ih1 _ _ _ _
   | exact spec_l8Next.mono _ _ _ _ _
   | exact LeO.none _
   | refine LeO.ite ?_ ?_
   | refine LeO.bind ?_ (fun _ => ?_)
theorem spec_l8Round.mono : ∀ a0 a1 a2 a3 a4 k, LeO (spec_l8Round.f k a0 a1 a2 a3 a4) (spec_l8Round.f (k + 1) a0 a1 a2 a3 a4) := by
 intro a0 a1 a2 a3 a4 k
 obtain ⟨ih0, ih1⟩ := spec_l8Round.mono_l k
 unfold spec_l8Round.f
 repeat' first
   | (with_reducible exact ih0 _ _ _ _ _ _)
   | (with_reducible exact ih1 _ _ _ _)
   | (with_reducible exact spec_l8Next.mono _ _ _ _ _)
   | (with_reducible exact LeO.refl _)
   | (with_reducible exact LeO.none _)
   | (with_reducible refine LeO.ite ?_ ?_)
   | (with_reducible refine LeO.bind ?_ (fun _ => ?_))
   | exact ih0 _ _ _ _ _ _
   | exact ih1 _ _ _ _
   | exact spec_l8Next.mono _ _ _ _ _
   | exact LeO.none _
   | refine LeO.ite ?_ ?_
   | refine LeO.bind ?_ (fun _ => ?_)
def spec_l8Round.T1 : Bool × List (List Nat × List Nat) := (true, [([], []), ([0], [0]), ([1], [1]), ([], []), ([3], [3]), ([4, 2], [4]), ([2, 5], [2, 5]), ([], []), ([7, 6, 5, 0, 1, 2, 3, 4, 5, 6, 7], [6, 7])])
def spec_l8Round.B1 : List Nat := [0, 1, 3, 0, 8, 31, 63, 0, 255]
theorem spec_l8Round.tab1 : rtab .any (opsOf Try.f118 1) = spec_l8Round.T1 := by kernel_rfl
theorem spec_l8Round.bits1 : waitsOk spec_l8Round.T1.2 spec_l8Round.B1 = true := by kernel_rfl
def spec_l8Round.T5 : Bool × List (List Nat × List Nat) := (true, [([], []), ([0], [0]), ([], []), ([], []), ([2, 3], [2, 3]), ([4], [4]), ([1, 5], [1, 5]), ([0, 1, 2, 3, 4, 5, 6], []), ([7, 6, 6, 0, 1, 2, 3, 4, 5, 6], [6, 7])])
def spec_l8Round.B5 : List Nat := [0, 1, 0, 0, 12, 28, 63, 127, 255]
theorem spec_l8Round.tab5 : rtab .any (opsOf Try.f118 5) = spec_l8Round.T5 := by kernel_rfl
theorem spec_l8Round.bits5 : waitsOk spec_l8Round.T5.2 spec_l8Round.B5 = true := by kernel_rfl
def spec_l8Round.T10 : Bool × List (List Nat × List Nat) := (true, [([], []), ([0], [0]), ([], []), ([], []), ([2, 3], [2, 3]), ([4], [4]), ([1, 5], [1, 5]), ([0, 1, 2, 3, 4, 5, 6], []), ([7, 6, 6, 0, 1, 2, 3, 4, 5, 6], [6, 7])])
def spec_l8Round.B10 : List Nat := [0, 1, 0, 0, 12, 28, 63, 127, 255]
theorem spec_l8Round.tab10 : rtab .any (opsOf Try.f118 10) = spec_l8Round.T10 := by kernel_rfl
theorem spec_l8Round.bits10 : waitsOk spec_l8Round.T10.2 spec_l8Round.B10 = true := by kernel_rfl
set_option maxHeartbeats 8000000 in
set_option maxRecDepth 100000 in
theorem spec_l8Round.calls (k : Nat) (a0_0 : Int) (A0_1 : Option Addr) (c0_1 : Nat) (l0_1 : List (S119)) (A1_0 : Option Addr) (c1_0 : Nat) (l1_0 : List Int) (A1_1 : Option Addr) (c1_1 : Nat) (l1_1 : List Int) (A2 : Option Addr) (c2 : Nat) (l2 : List Int) (r1 : List Int) (r2 : List Int) (w : World) (hr0_1 : Kd.C k119 w A0_1 l0_1.length l0_1) (hc0_1 : l0_1.length ≤ c0_1) (hr1_0 : Kd.C (Kd.int .i64) w A1_0 l1_0.length l1_0) (hc1_0 : l1_0.length ≤ c1_0) (hr1_1 : Kd.C (Kd.int .i64) w A1_1 l1_1.length l1_1) (hc1_1 : l1_1.length ≤ c1_1) (hr2 : Kd.C (Kd.int .i64) w A2 l2.length l2) (hc2 : l2.length ≤ c2) (h : spec_l8Round.f k a0_0 l0_1 l1_0 l1_1 l2 = some (r1, r2)) :
  Calls Try.prog 118 #[.agg #[.int .i64 a0_0, .slice A0_1 l0_1.length c0_1], .agg #[.slice A1_0 l1_0.length c1_0, .slice A1_1 l1_1.length c1_1], .slice A2 l2.length c2] w fun e w' => ∃ v0_ v1_ : Value, e = .returned (.agg #[v0_, v1_]) ∧ Kd.R (Kd.int .i64) 3 w' w.heap.size (fun k_ => some k_ ≠ (v1_ : Value).ownBlock) v0_ r1 ∧ Kd.R (Kd.int .i64) 3 w' w.heap.size (fun k_ => some k_ ≠ (v0_ : Value).ownBlock) v1_ r2 ∧ Below w.heap.size w w' := by
 have hu31 := Try.underlying31
 have hu71 := Try.underlying71
 have HR0_1 := Aside0.mk hr0_1
 have HC0_1 := Aside0.mk hc0_1
 clear hr0_1 hc0_1
 have HR1_0 := Aside0.mk hr1_0
 have HC1_0 := Aside0.mk hc1_0
 clear hr1_0 hc1_0
 have HR1_1 := Aside0.mk hr1_1
 have HC1_1 := Aside0.mk hc1_1
 clear hr1_1 hc1_1
 have HR2 := Aside0.mk hr2
 have HC2 := Aside0.mk hc2
 clear hr2 hc2
 have HB := Aside0.mk (Below.refl w.heap.size w)
 have H : ((spec_l1Own.f l1_0).bind fun t205 => ((spec_l1Own.f l1_1).bind fun t208 => (spec_l8Round.l0 k l2 0 a0_0 l0_1 t205 t208))) = some (r1, r2) := h
 clear h
 replace H := Option.bind_eq_some_iff.mp H
 obtain ⟨t205, A40, H⟩ := H
 replace H : ((spec_l1Own.f l1_1).bind fun t208 => (spec_l8Round.l0 k l2 0 a0_0 l0_1 t205 t208)) = some (r1, r2) := H
 have A4 := Aside0.mk A40
 clear A40
 replace H := Option.bind_eq_some_iff.mp H
 obtain ⟨t208, A50, H⟩ := H
 replace H : (spec_l8Round.l0 k l2 0 a0_0 l0_1 t205 t208) = some (r1, r2) := H
 have A5 := Aside0.mk A50
 clear A50
 have H' := Aside0.mk H
 clear H
 go_enter Try.func118, Try.ntmps118
 try go_wp2_with (first | ((with_reducible refine gate_dst (N := 3) rfl ?_);refine box_event ?hg (N := 3) ?hd (cs := #[.int .i64 a0_0, .slice A0_1 l0_1.length c0_1]) (t := 31) ?hr ?_;(case hd => rfl);(case hg => rfl);(case hr => first | (go_simp;done) | (go_simp;rfl));intro gb202 hg w6 hbox hb;have n0_ := Aside0.mk (below_step (by exact bB) hb);have n1_ := Aside0.mk (hbox);have n2_ := Aside0.mk ((by rw [hg];exact (below_size (by exact bB)) : w.heap.size ≤ gb202));have n3_ := Aside0.mk ((by rw [hg];exact (below_size (by exact bB)) : w.heap.size ≤ gb202));clear HB;have HB := n0_;have BK202 := n1_;have GW202 := n2_;have GE202 := n3_;clear n0_ n1_ n2_ n3_;clear hb hbox hg) | ((with_reducible refine gate_dst (N := 4) rfl ?_);refine box_event ?hg (N := 4) ?hd (cs := #[.slice A1_0 l1_0.length c1_0, .slice A1_1 l1_1.length c1_1]) (t := 71) ?hr ?_;(case hd => rfl);(case hg => rfl);(case hr => first | (go_simp;done) | (go_simp;rfl));intro gb203 hg w7 hbox hb;have n0_ := Aside0.mk (blk_below (g := gb202) (o := .cells #[.int .i64 a0_0, .slice A0_1 l0_1.length c0_1] 31 (0, 0)) (by exact kP BK202.out) hb);have n1_ := Aside0.mk (below_step (by exact bB) hb);have n2_ := Aside0.mk (hbox);have n3_ := Aside0.mk ((by rw [hg];exact (below_size (by exact bB)) : w.heap.size ≤ gb203));have n4_ := Aside0.mk ((by rw [hg];exact (below_size (by exact bB)) : w.heap.size ≤ gb203));have n5_ := Aside0.mk ((by rw [hg];exact Nat.ne_of_lt (blk_lt (g := gb202) (o := .cells #[.int .i64 a0_0, .slice A0_1 l0_1.length c0_1] 31 (0, 0)) (by exact kP BK202.out)) : gb202 ≠ gb203));have n6_ := Aside0.mk ((by rw [hg];exact Nat.ne_of_gt (blk_lt (g := gb202) (o := .cells #[.int .i64 a0_0, .slice A0_1 l0_1.length c0_1] 31 (0, 0)) (by exact kP BK202.out)) : gb203 ≠ gb202));clear BK202;clear HB;have BK202 := n0_;have HB := n1_;have BK203 := n2_;have GW203 := n3_;have GE203 := n4_;have NB202_203 := n5_;have NB203_202 := n6_;clear n0_ n1_ n2_ n3_ n4_ n5_ n6_;clear hb hbox hg) | ((with_reducible refine gate_dst (N := 6) rfl ?_);refine box_event ?hg (N := 6) ?hd (cs := #[.slice none 0 0, .slice none 0 0]) (t := 71) ?hr ?_;(case hd => rfl);(case hg => rfl);(case hr => first | (go_simp;done) | (go_simp;rfl));intro gb204 hg w8 hbox hb;have n0_ := Aside0.mk (blk_below (g := gb202) (o := .cells #[.int .i64 a0_0, .slice A0_1 l0_1.length c0_1] 31 (0, 0)) (by exact kP BK202.out) hb);have n1_ := Aside0.mk (blk_below (g := gb203) (o := .cells #[.slice A1_0 l1_0.length c1_0, .slice A1_1 l1_1.length c1_1] 71 (0, 0)) (by exact kP BK203.out) hb);have n2_ := Aside0.mk (below_step (by exact bB) hb);have n3_ := Aside0.mk (hbox);have n4_ := Aside0.mk ((by rw [hg];exact (below_size (by exact bB)) : w.heap.size ≤ gb204));have n5_ := Aside0.mk ((by rw [hg];exact (below_size (by exact bB)) : w.heap.size ≤ gb204));have n6_ := Aside0.mk ((by rw [hg];exact Nat.ne_of_lt (blk_lt (g := gb202) (o := .cells #[.int .i64 a0_0, .slice A0_1 l0_1.length c0_1] 31 (0, 0)) (by exact kP BK202.out)) : gb202 ≠ gb204));have n7_ := Aside0.mk ((by rw [hg];exact Nat.ne_of_gt (blk_lt (g := gb202) (o := .cells #[.int .i64 a0_0, .slice A0_1 l0_1.length c0_1] 31 (0, 0)) (by exact kP BK202.out)) : gb204 ≠ gb202));have n8_ := Aside0.mk ((by rw [hg];exact Nat.ne_of_lt (blk_lt (g := gb203) (o := .cells #[.slice A1_0 l1_0.length c1_0, .slice A1_1 l1_1.length c1_1] 71 (0, 0)) (by exact kP BK203.out)) : gb203 ≠ gb204));have n9_ := Aside0.mk ((by rw [hg];exact Nat.ne_of_gt (blk_lt (g := gb203) (o := .cells #[.slice A1_0 l1_0.length c1_0, .slice A1_1 l1_1.length c1_1] 71 (0, 0)) (by exact kP BK203.out)) : gb204 ≠ gb203));clear BK202;clear BK203;clear HB;have BK202 := n0_;have BK203 := n1_;have HB := n2_;have BK204 := n3_;have GW204 := n4_;have GE204 := n5_;have NB202_204 := n6_;have NB204_202 := n7_;have NB203_204 := n8_;have NB204_203 := n9_;clear n0_ n1_ n2_ n3_ n4_ n5_ n6_ n7_ n8_ n9_;clear hb hbox hg))
 have n0_ := Aside0.mk (blk_drew BK202.out)
 have n1_ := Aside0.mk (blk_drew BK203.out)
 have n2_ := Aside0.mk (blk_drew BK204.out)
 have n3_ := Aside0.mk (below_drew1 HB.out)
 clear BK202
 clear BK203
 clear BK204
 clear HB
 have BK202 := n0_
 have BK203 := n1_
 have BK204 := n2_
 have HB := n3_
 clear n0_ n1_ n2_ n3_
 refine start_ (n := 9) (S := fun w' => w'.cell? ⟨gb203, 0, none⟩ = some (.slice A1_0 l1_0.length c1_0) ∧ w'.cell? ⟨gb203, 1, none⟩ = some (.slice A1_1 l1_1.length c1_1)) (ds := []) #[false,false,false,false,false,false,false,false,false] (by kernel_rfl) rfl rfl ⟨(blk_cell BK203.out 0).trans rfl, (blk_cell BK203.out 1).trans rfl⟩ (fun hHeld => ?_);refine with_tabW spec_l8Round.tab1 spec_l8Round.bits1 (fun HT_ HW_ => ?_)
 generalize w8.drew = w9 at BK202 BK203 BK204 HB hHeld ⊢
 refine pure_ (i := 0) (N := some 11) (v := ?_) (a' := ?_) #[true,false,false,false,false,false,false,false,false] rfl rfl (any_of HT_.out (by kernel_rfl)) (fun _ _ _ h => h) (Or.inl ⟨by rfl, ?_⟩) ?_ ?_
 rotate_left
 ·intro w'
  go_simp
  with_reducible rfl
 rotate_left
 ·simp only [Act.put, List.setIfInBounds_toArray, List.set_cons_zero, List.set_cons_succ, i64_w, i32_w]
  rfl
 refine pure_ (i := 3) (N := some 14) (v := ?_) (a' := ?_) #[true,false,false,true,false,false,false,false,false] rfl rfl (any_of HT_.out (by kernel_rfl)) (fun _ _ _ h => h) (Or.inl ⟨by rfl, ?_⟩) ?_ ?_
 rotate_left
 ·intro w'
  go_simp
  with_reducible rfl
 rotate_left
 ·simp only [Act.put, List.setIfInBounds_toArray, List.set_cons_zero, List.set_cons_succ, i64_w, i32_w]
  rfl
 refine take_ (i := 1) (N := some 12) (v := ?_) (a' := ?_) #[true,true,false,true,false,false,false,false,false] rfl rfl (take_ofW HT_.out HW_.out (by kernel_rfl)) (fun _ _ _ h => h) (Or.inl ⟨by rfl, ?_⟩) hHeld ?_ ?_
 rotate_left
 ·rintro w' ⟨s0, s1⟩
  go_simp
  with_reducible rfl
 rotate_left
 ·simp only [Act.put, List.setIfInBounds_toArray, List.set_cons_zero, List.set_cons_succ, i64_w, i32_w]
  rfl
 refine take_ (i := 4) (N := some 15) (v := ?_) (a' := ?_) #[true,true,false,true,true,false,false,false,false] rfl rfl (take_ofW HT_.out HW_.out (by kernel_rfl)) (fun _ _ _ h => h) (Or.inl ⟨by rfl, ?_⟩) hHeld ?_ ?_
 rotate_left
 ·rintro w' ⟨s0, s1⟩
  go_simp
  with_reducible rfl
 rotate_left
 ·simp only [Act.put, List.setIfInBounds_toArray, List.set_cons_zero, List.set_cons_succ, i64_w, i32_w]
  rfl
 refine join_ (σ := Value × Value × Nat) 1 #[true,true,true,true,true,true,true,true,false] (fun s_ => [(13, s_.1), (16, s_.2.1), (7, .pointer (some ⟨s_.2.2, 0, none⟩)), (17, .agg #[s_.1, s_.2.1])]) (fun s_ w' => (w'.cell? ⟨gb203, 0, none⟩ = some (.slice A1_0 l1_0.length c1_0) ∧ w'.cell? ⟨gb203, 1, none⟩ = some (.slice A1_1 l1_1.length c1_1)) ∧ (Kd.R (Kd.int .i64) 3 w' w.heap.size (fun k_ => some k_ ≠ (s_.2.1 : Value).ownBlock) s_.1 t205) ∧ (Kd.R (Kd.int .i64) 3 w' w.heap.size (fun k_ => some k_ ≠ (s_.1 : Value).ownBlock) s_.2.1 t208) ∧ (w'.heap[gb202]? = some (.cells #[.int .i64 a0_0, .slice A0_1 l0_1.length c0_1] 31 (0, 0))) ∧ (w'.heap[gb203]? = some (.cells #[.slice A1_0 l1_0.length c1_0, .slice A1_1 l1_1.length c1_1] 71 (0, 0))) ∧ (w'.heap[gb204]? = some (.cells #[.slice none 0 0, .slice none 0 0] 71 (0, 0))) ∧ (w'.heap[s_.2.2]? = some (.cells #[.slice none 0 0, .slice none 0 0] 71 (0, 0))) ∧ (w.heap.size ≤ s_.2.2) ∧ (w.heap.size ≤ s_.2.2) ∧ (gb202 ≠ s_.2.2) ∧ (s_.2.2 ≠ gb202) ∧ (gb203 ≠ s_.2.2) ∧ (s_.2.2 ≠ gb203) ∧ (gb204 ≠ s_.2.2) ∧ (s_.2.2 ≠ gb204) ∧ (Below w.heap.size w w')) ?_ ?_
 rotate_left
 ·intro hCont
  refine two_ (i := 2) (j := 7) (Ni := some 13) (Nj := some 7) #[true,true,true,true,true,false,false,false,false] #[true,true,false,true,true,false,false,true,false] rfl rfl rfl rfl (two_of HT_.out (by kernel_rfl)) (by decide) (by decide) (fun K hK => ?_) (fun K hK => ?_)
  ·skip
   refine goes_ Try.func78 (by kernel_rfl) rfl #[.slice A1_0 l1_0.length c1_0] (by rfl) rfl rfl mM ?_
   with_reducible refine (spec_l1Own.calls _ _ l1_0 t205 _ ?side1 ?side2 A4.out).mono ?_
   (case side1 => exact cP (Kd.C_below HR1_0.out HB.out))
   (case side2 => exact HC1_0.out)
   rintro e w10 ⟨v206, rfl, ho0, hb⟩
   refine ⟨_, rfl, ?_⟩
   have n0_ := Aside0.mk (Kd.R_lower ho0 (below_size (by exact bB)))
   have n1_ := Aside0.mk (blk_below (g := gb202) (o := .cells #[.int .i64 a0_0, .slice A0_1 l0_1.length c0_1] 31 (0, 0)) (by exact kP BK202.out) hb)
   have n2_ := Aside0.mk (blk_below (g := gb203) (o := .cells #[.slice A1_0 l1_0.length c1_0, .slice A1_1 l1_1.length c1_1] 71 (0, 0)) (by exact kP BK203.out) hb)
   have n3_ := Aside0.mk (blk_below (g := gb204) (o := .cells #[.slice none 0 0, .slice none 0 0] 71 (0, 0)) (by exact kP BK204.out) hb)
   have n4_ := Aside0.mk (below_step (by exact bB) hb)
   clear BK202
   clear BK203
   clear BK204
   clear HB
   have HO207 := n0_
   have BK202 := n1_
   have BK203 := n2_
   have BK204 := n3_
   have HB := n4_
   clear n0_ n1_ n2_ n3_ n4_
   (try clear hb)
   (try clear hb2)
   (try clear hk)
   (try clear hi)
   (try clear ho0)
   refine hK.out _ _ ⟨(blk_cell BK203.out 0).trans rfl, (blk_cell BK203.out 1).trans rfl⟩ (fun hHeld => ?_)
   clear hK K
   refine norm_ (a' := ?_) ?_ ?_
   rotate_left
   ·show Act.put _ (some 13) _ = _
    simp only [Act.put, List.setIfInBounds_toArray, List.set_cons_zero, List.set_cons_succ, i64_w, i32_w]
    rfl
   refine two_ (i := 5) (j := 7) (Ni := some 16) (Nj := some 7) #[true,true,true,true,true,true,false,false,false] #[true,true,true,true,true,false,false,true,false] rfl rfl rfl rfl (two_of HT_.out (by kernel_rfl)) (by decide) (by decide) (fun K hK => ?_) (fun K hK => ?_)
   ·skip
    refine goes_ Try.func78 (by kernel_rfl) rfl #[.slice A1_1 l1_1.length c1_1] (by rfl) rfl rfl mM ?_
    with_reducible refine (spec_l1Own.calls _ _ l1_1 t208 _ ?side1 ?side2 A5.out).mono ?_
    (case side1 => exact cP (Kd.C_below HR1_1.out HB.out))
    (case side2 => exact HC1_1.out)
    rintro e w11 ⟨v209, rfl, ho0, hb⟩
    refine ⟨_, rfl, ?_⟩
    have n0_ := Aside0.mk (Kd.R_elder' (by exact rP HO207.out) (Kd.R_base ho0) hb)
    have n1_ := Aside0.mk (Kd.R_lower (Kd.R_new' ho0 (Kd.R_lt (by exact rP HO207.out))) (below_size (by exact bB)))
    have n2_ := Aside0.mk (blk_below (g := gb202) (o := .cells #[.int .i64 a0_0, .slice A0_1 l0_1.length c0_1] 31 (0, 0)) (by exact kP BK202.out) hb)
    have n3_ := Aside0.mk (blk_below (g := gb203) (o := .cells #[.slice A1_0 l1_0.length c1_0, .slice A1_1 l1_1.length c1_1] 71 (0, 0)) (by exact kP BK203.out) hb)
    have n4_ := Aside0.mk (blk_below (g := gb204) (o := .cells #[.slice none 0 0, .slice none 0 0] 71 (0, 0)) (by exact kP BK204.out) hb)
    have n5_ := Aside0.mk (below_step (by exact bB) hb)
    clear HO207
    clear BK202
    clear BK203
    clear BK204
    clear HB
    have HO207 := n0_
    have HO210 := n1_
    have BK202 := n2_
    have BK203 := n3_
    have BK204 := n4_
    have HB := n5_
    clear n0_ n1_ n2_ n3_ n4_ n5_
    (try clear hb)
    (try clear hb2)
    (try clear hk)
    (try clear hi)
    (try clear ho0)
    obtain ⟨Ao12, co12, eo12⟩ := Kd.R_slice HO210.out
    (first | subst eo12 | (injection eo12 with f1_ f2_ f3_;have f4_ := f1_.symm;have f5_ := f3_.symm;clear f1_ f2_ f3_;subst f4_;subst f5_))
    obtain ⟨Ao13, co13, eo13⟩ := Kd.R_slice HO207.out
    (first | subst eo13 | (injection eo13 with f1_ f2_ f3_;have f4_ := f1_.symm;have f5_ := f3_.symm;clear f1_ f2_ f3_;subst f4_;subst f5_))
    refine hK.out _ _ ⟨(blk_cell BK203.out 0).trans rfl, (blk_cell BK203.out 1).trans rfl⟩ (fun hHeld => ?_)
    clear hK K
    refine norm_ (a' := ?_) ?_ ?_
    rotate_left
    ·show Act.put _ (some 16) _ = _
     simp only [Act.put, List.setIfInBounds_toArray, List.set_cons_zero, List.set_cons_succ, i64_w, i32_w]
     rfl
    refine pure_ (i := 6) (N := some 17) (v := ?_) (a' := ?_) #[true,true,true,true,true,true,true,false,false] rfl rfl (any_of HT_.out (by kernel_rfl)) (fun _ _ _ h => h) (Or.inl ⟨by rfl, ?_⟩) ?_ ?_
    rotate_left
    ·intro w'
     go_simp
     with_reducible rfl
    rotate_left
    ·simp only [Act.put, List.setIfInBounds_toArray, List.set_cons_zero, List.set_cons_succ, i64_w, i32_w]
     rfl
    refine one_ (i := 7) (N := some 7) #[true,true,true,true,true,true,true,true,false] rfl rfl (one_of HT_.out (by kernel_rfl)) (by decide) (fun K hK => ?_)
    refine box_step ?hg (N := 7) ?hd (cs := #[.slice none 0 0, .slice none 0 0]) (t := 71) ?hr ?_;(case hd => rfl);(case hg => rfl);(case hr => first | (go_simp;done) | (go_simp;rfl))
    intro gb211 hg w14 hbox hb
    have n0_ := Aside0.mk (Kd.R_below (by exact rP HO207.out) hb)
    have n1_ := Aside0.mk (Kd.R_below (by exact rP HO210.out) hb)
    have n2_ := Aside0.mk (blk_below (g := gb202) (o := .cells #[.int .i64 a0_0, .slice A0_1 l0_1.length c0_1] 31 (0, 0)) (by exact kP BK202.out) hb)
    have n3_ := Aside0.mk (blk_below (g := gb203) (o := .cells #[.slice A1_0 l1_0.length c1_0, .slice A1_1 l1_1.length c1_1] 71 (0, 0)) (by exact kP BK203.out) hb)
    have n4_ := Aside0.mk (blk_below (g := gb204) (o := .cells #[.slice none 0 0, .slice none 0 0] 71 (0, 0)) (by exact kP BK204.out) hb)
    have n5_ := Aside0.mk (below_step (by exact bB) hb)
    have n6_ := Aside0.mk (hbox)
    have n7_ := Aside0.mk ((by rw [hg];exact (below_size (by exact bB)) : w.heap.size ≤ gb211))
    have n8_ := Aside0.mk ((by rw [hg];exact (below_size (by exact bB)) : w.heap.size ≤ gb211))
    have n9_ := Aside0.mk ((by rw [hg];exact Nat.ne_of_lt (blk_lt (g := gb202) (o := .cells #[.int .i64 a0_0, .slice A0_1 l0_1.length c0_1] 31 (0, 0)) (by exact kP BK202.out)) : gb202 ≠ gb211))
    have n10_ := Aside0.mk ((by rw [hg];exact Nat.ne_of_gt (blk_lt (g := gb202) (o := .cells #[.int .i64 a0_0, .slice A0_1 l0_1.length c0_1] 31 (0, 0)) (by exact kP BK202.out)) : gb211 ≠ gb202))
    have n11_ := Aside0.mk ((by rw [hg];exact Nat.ne_of_lt (blk_lt (g := gb203) (o := .cells #[.slice A1_0 l1_0.length c1_0, .slice A1_1 l1_1.length c1_1] 71 (0, 0)) (by exact kP BK203.out)) : gb203 ≠ gb211))
    have n12_ := Aside0.mk ((by rw [hg];exact Nat.ne_of_gt (blk_lt (g := gb203) (o := .cells #[.slice A1_0 l1_0.length c1_0, .slice A1_1 l1_1.length c1_1] 71 (0, 0)) (by exact kP BK203.out)) : gb211 ≠ gb203))
    have n13_ := Aside0.mk ((by rw [hg];exact Nat.ne_of_lt (blk_lt (g := gb204) (o := .cells #[.slice none 0 0, .slice none 0 0] 71 (0, 0)) (by exact kP BK204.out)) : gb204 ≠ gb211))
    have n14_ := Aside0.mk ((by rw [hg];exact Nat.ne_of_gt (blk_lt (g := gb204) (o := .cells #[.slice none 0 0, .slice none 0 0] 71 (0, 0)) (by exact kP BK204.out)) : gb211 ≠ gb204))
    clear HO207
    clear HO210
    clear BK202
    clear BK203
    clear BK204
    clear HB
    have HO207 := n0_
    have HO210 := n1_
    have BK202 := n2_
    have BK203 := n3_
    have BK204 := n4_
    have HB := n5_
    have BK211 := n6_
    have GW211 := n7_
    have GE211 := n8_
    have NB202_211 := n9_
    have NB211_202 := n10_
    have NB203_211 := n11_
    have NB211_203 := n12_
    have NB204_211 := n13_
    have NB211_204 := n14_
    clear n0_ n1_ n2_ n3_ n4_ n5_ n6_ n7_ n8_ n9_ n10_ n11_ n12_ n13_ n14_
    clear hb hbox hg
    refine hK.out _ _ ⟨(blk_cell BK203.out 0).trans rfl, (blk_cell BK203.out 1).trans rfl⟩ (fun hHeld => ?_)
    clear hK K
    refine norm_ (a' := ?_) ?_ ?_
    rotate_left
    ·show Act.put _ (some 7) _ = _
     simp only [Act.put, List.setIfInBounds_toArray, List.set_cons_zero, List.set_cons_succ, i64_w, i32_w]
     rfl
    exact norm_ (by simp only [putAll, Act.put, List.setIfInBounds_toArray, List.set_cons_zero, List.set_cons_succ]) (hCont (.slice Ao13 t205.length co13, .slice Ao12 t208.length co12, gb211) _ ⟨hHeld, (by refine rP ?_;exact Kd.R_mono HO207.out (fun _ hk => hk.2)), (by refine rP ?_;exact Kd.R_mono HO210.out (fun _ hk => hk.2)), (by exact kP BK202.out), (by exact kP BK203.out), (by exact kP BK204.out), (by exact kP BK211.out), GW211.out, GE211.out, NB202_211.out, NB211_202.out, NB203_211.out, NB211_203.out, NB204_211.out, NB211_204.out, (by exact bB)⟩)
   ·skip
    refine box_step ?hg (N := 7) ?hd (cs := #[.slice none 0 0, .slice none 0 0]) (t := 71) ?hr ?_;(case hd => rfl);(case hg => rfl);(case hr => first | (go_simp;done) | (go_simp;rfl))
    intro gb211 hg w11 hbox hb
    have n0_ := Aside0.mk (Kd.R_below (by exact rP HO207.out) hb)
    have n1_ := Aside0.mk (blk_below (g := gb202) (o := .cells #[.int .i64 a0_0, .slice A0_1 l0_1.length c0_1] 31 (0, 0)) (by exact kP BK202.out) hb)
    have n2_ := Aside0.mk (blk_below (g := gb203) (o := .cells #[.slice A1_0 l1_0.length c1_0, .slice A1_1 l1_1.length c1_1] 71 (0, 0)) (by exact kP BK203.out) hb)
    have n3_ := Aside0.mk (blk_below (g := gb204) (o := .cells #[.slice none 0 0, .slice none 0 0] 71 (0, 0)) (by exact kP BK204.out) hb)
    have n4_ := Aside0.mk (below_step (by exact bB) hb)
    have n5_ := Aside0.mk (hbox)
    have n6_ := Aside0.mk ((by rw [hg];exact (below_size (by exact bB)) : w.heap.size ≤ gb211))
    have n7_ := Aside0.mk ((by rw [hg];exact (below_size (by exact bB)) : w.heap.size ≤ gb211))
    have n8_ := Aside0.mk ((by rw [hg];exact Nat.ne_of_lt (blk_lt (g := gb202) (o := .cells #[.int .i64 a0_0, .slice A0_1 l0_1.length c0_1] 31 (0, 0)) (by exact kP BK202.out)) : gb202 ≠ gb211))
    have n9_ := Aside0.mk ((by rw [hg];exact Nat.ne_of_gt (blk_lt (g := gb202) (o := .cells #[.int .i64 a0_0, .slice A0_1 l0_1.length c0_1] 31 (0, 0)) (by exact kP BK202.out)) : gb211 ≠ gb202))
    have n10_ := Aside0.mk ((by rw [hg];exact Nat.ne_of_lt (blk_lt (g := gb203) (o := .cells #[.slice A1_0 l1_0.length c1_0, .slice A1_1 l1_1.length c1_1] 71 (0, 0)) (by exact kP BK203.out)) : gb203 ≠ gb211))
    have n11_ := Aside0.mk ((by rw [hg];exact Nat.ne_of_gt (blk_lt (g := gb203) (o := .cells #[.slice A1_0 l1_0.length c1_0, .slice A1_1 l1_1.length c1_1] 71 (0, 0)) (by exact kP BK203.out)) : gb211 ≠ gb203))
    have n12_ := Aside0.mk ((by rw [hg];exact Nat.ne_of_lt (blk_lt (g := gb204) (o := .cells #[.slice none 0 0, .slice none 0 0] 71 (0, 0)) (by exact kP BK204.out)) : gb204 ≠ gb211))
    have n13_ := Aside0.mk ((by rw [hg];exact Nat.ne_of_gt (blk_lt (g := gb204) (o := .cells #[.slice none 0 0, .slice none 0 0] 71 (0, 0)) (by exact kP BK204.out)) : gb211 ≠ gb204))
    clear HO207
    clear BK202
    clear BK203
    clear BK204
    clear HB
    have HO207 := n0_
    have BK202 := n1_
    have BK203 := n2_
    have BK204 := n3_
    have HB := n4_
    have BK211 := n5_
    have GW211 := n6_
    have GE211 := n7_
    have NB202_211 := n8_
    have NB211_202 := n9_
    have NB203_211 := n10_
    have NB211_203 := n11_
    have NB204_211 := n12_
    have NB211_204 := n13_
    clear n0_ n1_ n2_ n3_ n4_ n5_ n6_ n7_ n8_ n9_ n10_ n11_ n12_ n13_
    clear hb hbox hg
    refine hK.out _ _ ⟨(blk_cell BK203.out 0).trans rfl, (blk_cell BK203.out 1).trans rfl⟩ (fun hHeld => ?_)
    clear hK K
    refine norm_ (a' := ?_) ?_ ?_
    rotate_left
    ·show Act.put _ (some 7) _ = _
     simp only [Act.put, List.setIfInBounds_toArray, List.set_cons_zero, List.set_cons_succ, i64_w, i32_w]
     rfl
    refine one_ (i := 5) (N := some 16) #[true,true,true,true,true,true,false,true,false] rfl rfl (one_of HT_.out (by kernel_rfl)) (by decide) (fun K hK => ?_)
    refine goes_ Try.func78 (by kernel_rfl) rfl #[.slice A1_1 l1_1.length c1_1] (by rfl) rfl rfl mM ?_
    with_reducible refine (spec_l1Own.calls _ _ l1_1 t208 _ ?side1 ?side2 A5.out).mono ?_
    (case side1 => exact cP (Kd.C_below HR1_1.out HB.out))
    (case side2 => exact HC1_1.out)
    rintro e w12 ⟨v209, rfl, ho0, hb⟩
    refine ⟨_, rfl, ?_⟩
    have n0_ := Aside0.mk (Kd.R_elder' (by exact rP HO207.out) (Kd.R_base ho0) hb)
    have n1_ := Aside0.mk (Kd.R_lower (Kd.R_new' ho0 (Kd.R_lt (by exact rP HO207.out))) (below_size (by exact bB)))
    have n2_ := Aside0.mk (blk_below (g := gb202) (o := .cells #[.int .i64 a0_0, .slice A0_1 l0_1.length c0_1] 31 (0, 0)) (by exact kP BK202.out) hb)
    have n3_ := Aside0.mk (blk_below (g := gb203) (o := .cells #[.slice A1_0 l1_0.length c1_0, .slice A1_1 l1_1.length c1_1] 71 (0, 0)) (by exact kP BK203.out) hb)
    have n4_ := Aside0.mk (blk_below (g := gb204) (o := .cells #[.slice none 0 0, .slice none 0 0] 71 (0, 0)) (by exact kP BK204.out) hb)
    have n5_ := Aside0.mk (blk_below (g := gb211) (o := .cells #[.slice none 0 0, .slice none 0 0] 71 (0, 0)) (by exact kP BK211.out) hb)
    have n6_ := Aside0.mk (below_step (by exact bB) hb)
    clear HO207
    clear BK202
    clear BK203
    clear BK204
    clear BK211
    clear HB
    have HO207 := n0_
    have HO210 := n1_
    have BK202 := n2_
    have BK203 := n3_
    have BK204 := n4_
    have BK211 := n5_
    have HB := n6_
    clear n0_ n1_ n2_ n3_ n4_ n5_ n6_
    (try clear hb)
    (try clear hb2)
    (try clear hk)
    (try clear hi)
    (try clear ho0)
    obtain ⟨Ao13, co13, eo13⟩ := Kd.R_slice HO210.out
    (first | subst eo13 | (injection eo13 with f1_ f2_ f3_;have f4_ := f1_.symm;have f5_ := f3_.symm;clear f1_ f2_ f3_;subst f4_;subst f5_))
    obtain ⟨Ao14, co14, eo14⟩ := Kd.R_slice HO207.out
    (first | subst eo14 | (injection eo14 with f1_ f2_ f3_;have f4_ := f1_.symm;have f5_ := f3_.symm;clear f1_ f2_ f3_;subst f4_;subst f5_))
    refine hK.out _ _ ⟨(blk_cell BK203.out 0).trans rfl, (blk_cell BK203.out 1).trans rfl⟩ (fun hHeld => ?_)
    clear hK K
    refine norm_ (a' := ?_) ?_ ?_
    rotate_left
    ·show Act.put _ (some 16) _ = _
     simp only [Act.put, List.setIfInBounds_toArray, List.set_cons_zero, List.set_cons_succ, i64_w, i32_w]
     rfl
    refine pure_ (i := 6) (N := some 17) (v := ?_) (a' := ?_) #[true,true,true,true,true,true,true,true,false] rfl rfl (any_of HT_.out (by kernel_rfl)) (fun _ _ _ h => h) (Or.inl ⟨by rfl, ?_⟩) ?_ ?_
    rotate_left
    ·intro w'
     go_simp
     with_reducible rfl
    rotate_left
    ·simp only [Act.put, List.setIfInBounds_toArray, List.set_cons_zero, List.set_cons_succ, i64_w, i32_w]
     rfl
    exact norm_ (by simp only [putAll, Act.put, List.setIfInBounds_toArray, List.set_cons_zero, List.set_cons_succ]) (hCont (.slice Ao14 t205.length co14, .slice Ao13 t208.length co13, gb211) _ ⟨hHeld, (by refine rP ?_;exact Kd.R_mono HO207.out (fun _ hk => hk.2)), (by refine rP ?_;exact Kd.R_mono HO210.out (fun _ hk => hk.2)), (by exact kP BK202.out), (by exact kP BK203.out), (by exact kP BK204.out), (by exact kP BK211.out), GW211.out, GE211.out, NB202_211.out, NB211_202.out, NB203_211.out, NB211_203.out, NB204_211.out, NB211_204.out, (by exact bB)⟩)
  ·skip
   refine box_step ?hg (N := 7) ?hd (cs := #[.slice none 0 0, .slice none 0 0]) (t := 71) ?hr ?_;(case hd => rfl);(case hg => rfl);(case hr => first | (go_simp;done) | (go_simp;rfl))
   intro gb211 hg w10 hbox hb
   have n0_ := Aside0.mk (blk_below (g := gb202) (o := .cells #[.int .i64 a0_0, .slice A0_1 l0_1.length c0_1] 31 (0, 0)) (by exact kP BK202.out) hb)
   have n1_ := Aside0.mk (blk_below (g := gb203) (o := .cells #[.slice A1_0 l1_0.length c1_0, .slice A1_1 l1_1.length c1_1] 71 (0, 0)) (by exact kP BK203.out) hb)
   have n2_ := Aside0.mk (blk_below (g := gb204) (o := .cells #[.slice none 0 0, .slice none 0 0] 71 (0, 0)) (by exact kP BK204.out) hb)
   have n3_ := Aside0.mk (below_step (by exact bB) hb)
   have n4_ := Aside0.mk (hbox)
   have n5_ := Aside0.mk ((by rw [hg];exact (below_size (by exact bB)) : w.heap.size ≤ gb211))
   have n6_ := Aside0.mk ((by rw [hg];exact (below_size (by exact bB)) : w.heap.size ≤ gb211))
   have n7_ := Aside0.mk ((by rw [hg];exact Nat.ne_of_lt (blk_lt (g := gb202) (o := .cells #[.int .i64 a0_0, .slice A0_1 l0_1.length c0_1] 31 (0, 0)) (by exact kP BK202.out)) : gb202 ≠ gb211))
   have n8_ := Aside0.mk ((by rw [hg];exact Nat.ne_of_gt (blk_lt (g := gb202) (o := .cells #[.int .i64 a0_0, .slice A0_1 l0_1.length c0_1] 31 (0, 0)) (by exact kP BK202.out)) : gb211 ≠ gb202))
   have n9_ := Aside0.mk ((by rw [hg];exact Nat.ne_of_lt (blk_lt (g := gb203) (o := .cells #[.slice A1_0 l1_0.length c1_0, .slice A1_1 l1_1.length c1_1] 71 (0, 0)) (by exact kP BK203.out)) : gb203 ≠ gb211))
   have n10_ := Aside0.mk ((by rw [hg];exact Nat.ne_of_gt (blk_lt (g := gb203) (o := .cells #[.slice A1_0 l1_0.length c1_0, .slice A1_1 l1_1.length c1_1] 71 (0, 0)) (by exact kP BK203.out)) : gb211 ≠ gb203))
   have n11_ := Aside0.mk ((by rw [hg];exact Nat.ne_of_lt (blk_lt (g := gb204) (o := .cells #[.slice none 0 0, .slice none 0 0] 71 (0, 0)) (by exact kP BK204.out)) : gb204 ≠ gb211))
   have n12_ := Aside0.mk ((by rw [hg];exact Nat.ne_of_gt (blk_lt (g := gb204) (o := .cells #[.slice none 0 0, .slice none 0 0] 71 (0, 0)) (by exact kP BK204.out)) : gb211 ≠ gb204))
   clear BK202
   clear BK203
   clear BK204
   clear HB
   have BK202 := n0_
   have BK203 := n1_
   have BK204 := n2_
   have HB := n3_
   have BK211 := n4_
   have GW211 := n5_
   have GE211 := n6_
   have NB202_211 := n7_
   have NB211_202 := n8_
   have NB203_211 := n9_
   have NB211_203 := n10_
   have NB204_211 := n11_
   have NB211_204 := n12_
   clear n0_ n1_ n2_ n3_ n4_ n5_ n6_ n7_ n8_ n9_ n10_ n11_ n12_
   clear hb hbox hg
   refine hK.out _ _ ⟨(blk_cell BK203.out 0).trans rfl, (blk_cell BK203.out 1).trans rfl⟩ (fun hHeld => ?_)
   clear hK K
   refine norm_ (a' := ?_) ?_ ?_
   rotate_left
   ·show Act.put _ (some 7) _ = _
    simp only [Act.put, List.setIfInBounds_toArray, List.set_cons_zero, List.set_cons_succ, i64_w, i32_w]
    rfl
   refine one_ (i := 2) (N := some 13) #[true,true,true,true,true,false,false,true,false] rfl rfl (one_of HT_.out (by kernel_rfl)) (by decide) (fun K hK => ?_)
   refine goes_ Try.func78 (by kernel_rfl) rfl #[.slice A1_0 l1_0.length c1_0] (by rfl) rfl rfl mM ?_
   with_reducible refine (spec_l1Own.calls _ _ l1_0 t205 _ ?side1 ?side2 A4.out).mono ?_
   (case side1 => exact cP (Kd.C_below HR1_0.out HB.out))
   (case side2 => exact HC1_0.out)
   rintro e w11 ⟨v206, rfl, ho0, hb⟩
   refine ⟨_, rfl, ?_⟩
   have n0_ := Aside0.mk (Kd.R_lower ho0 (below_size (by exact bB)))
   have n1_ := Aside0.mk (blk_below (g := gb202) (o := .cells #[.int .i64 a0_0, .slice A0_1 l0_1.length c0_1] 31 (0, 0)) (by exact kP BK202.out) hb)
   have n2_ := Aside0.mk (blk_below (g := gb203) (o := .cells #[.slice A1_0 l1_0.length c1_0, .slice A1_1 l1_1.length c1_1] 71 (0, 0)) (by exact kP BK203.out) hb)
   have n3_ := Aside0.mk (blk_below (g := gb204) (o := .cells #[.slice none 0 0, .slice none 0 0] 71 (0, 0)) (by exact kP BK204.out) hb)
   have n4_ := Aside0.mk (blk_below (g := gb211) (o := .cells #[.slice none 0 0, .slice none 0 0] 71 (0, 0)) (by exact kP BK211.out) hb)
   have n5_ := Aside0.mk (below_step (by exact bB) hb)
   clear BK202
   clear BK203
   clear BK204
   clear BK211
   clear HB
   have HO207 := n0_
   have BK202 := n1_
   have BK203 := n2_
   have BK204 := n3_
   have BK211 := n4_
   have HB := n5_
   clear n0_ n1_ n2_ n3_ n4_ n5_
   (try clear hb)
   (try clear hb2)
   (try clear hk)
   (try clear hi)
   (try clear ho0)
   refine hK.out _ _ ⟨(blk_cell BK203.out 0).trans rfl, (blk_cell BK203.out 1).trans rfl⟩ (fun hHeld => ?_)
   clear hK K
   refine norm_ (a' := ?_) ?_ ?_
   rotate_left
   ·show Act.put _ (some 13) _ = _
    simp only [Act.put, List.setIfInBounds_toArray, List.set_cons_zero, List.set_cons_succ, i64_w, i32_w]
    rfl
   refine one_ (i := 5) (N := some 16) #[true,true,true,true,true,true,false,true,false] rfl rfl (one_of HT_.out (by kernel_rfl)) (by decide) (fun K hK => ?_)
   refine goes_ Try.func78 (by kernel_rfl) rfl #[.slice A1_1 l1_1.length c1_1] (by rfl) rfl rfl mM ?_
   with_reducible refine (spec_l1Own.calls _ _ l1_1 t208 _ ?side1 ?side2 A5.out).mono ?_
   (case side1 => exact cP (Kd.C_below HR1_1.out HB.out))
   (case side2 => exact HC1_1.out)
   rintro e w12 ⟨v209, rfl, ho0, hb⟩
   refine ⟨_, rfl, ?_⟩
   have n0_ := Aside0.mk (Kd.R_elder' (by exact rP HO207.out) (Kd.R_base ho0) hb)
   have n1_ := Aside0.mk (Kd.R_lower (Kd.R_new' ho0 (Kd.R_lt (by exact rP HO207.out))) (below_size (by exact bB)))
   have n2_ := Aside0.mk (blk_below (g := gb202) (o := .cells #[.int .i64 a0_0, .slice A0_1 l0_1.length c0_1] 31 (0, 0)) (by exact kP BK202.out) hb)
   have n3_ := Aside0.mk (blk_below (g := gb203) (o := .cells #[.slice A1_0 l1_0.length c1_0, .slice A1_1 l1_1.length c1_1] 71 (0, 0)) (by exact kP BK203.out) hb)
   have n4_ := Aside0.mk (blk_below (g := gb204) (o := .cells #[.slice none 0 0, .slice none 0 0] 71 (0, 0)) (by exact kP BK204.out) hb)
   have n5_ := Aside0.mk (blk_below (g := gb211) (o := .cells #[.slice none 0 0, .slice none 0 0] 71 (0, 0)) (by exact kP BK211.out) hb)
   have n6_ := Aside0.mk (below_step (by exact bB) hb)
   clear HO207
   clear BK202
   clear BK203
   clear BK204
   clear BK211
   clear HB
   have HO207 := n0_
   have HO210 := n1_
   have BK202 := n2_
   have BK203 := n3_
   have BK204 := n4_
   have BK211 := n5_
   have HB := n6_
   clear n0_ n1_ n2_ n3_ n4_ n5_ n6_
   (try clear hb)
   (try clear hb2)
   (try clear hk)
   (try clear hi)
   (try clear ho0)
   obtain ⟨Ao13, co13, eo13⟩ := Kd.R_slice HO210.out
   (first | subst eo13 | (injection eo13 with f1_ f2_ f3_;have f4_ := f1_.symm;have f5_ := f3_.symm;clear f1_ f2_ f3_;subst f4_;subst f5_))
   obtain ⟨Ao14, co14, eo14⟩ := Kd.R_slice HO207.out
   (first | subst eo14 | (injection eo14 with f1_ f2_ f3_;have f4_ := f1_.symm;have f5_ := f3_.symm;clear f1_ f2_ f3_;subst f4_;subst f5_))
   refine hK.out _ _ ⟨(blk_cell BK203.out 0).trans rfl, (blk_cell BK203.out 1).trans rfl⟩ (fun hHeld => ?_)
   clear hK K
   refine norm_ (a' := ?_) ?_ ?_
   rotate_left
   ·show Act.put _ (some 16) _ = _
    simp only [Act.put, List.setIfInBounds_toArray, List.set_cons_zero, List.set_cons_succ, i64_w, i32_w]
    rfl
   refine pure_ (i := 6) (N := some 17) (v := ?_) (a' := ?_) #[true,true,true,true,true,true,true,true,false] rfl rfl (any_of HT_.out (by kernel_rfl)) (fun _ _ _ h => h) (Or.inl ⟨by rfl, ?_⟩) ?_ ?_
   rotate_left
   ·intro w'
    go_simp
    with_reducible rfl
   rotate_left
   ·simp only [Act.put, List.setIfInBounds_toArray, List.set_cons_zero, List.set_cons_succ, i64_w, i32_w]
    rfl
   exact norm_ (by simp only [putAll, Act.put, List.setIfInBounds_toArray, List.set_cons_zero, List.set_cons_succ]) (hCont (.slice Ao14 t205.length co14, .slice Ao13 t208.length co13, gb211) _ ⟨hHeld, (by refine rP ?_;exact Kd.R_mono HO207.out (fun _ hk => hk.2)), (by refine rP ?_;exact Kd.R_mono HO210.out (fun _ hk => hk.2)), (by exact kP BK202.out), (by exact kP BK203.out), (by exact kP BK204.out), (by exact kP BK211.out), GW211.out, GE211.out, NB202_211.out, NB211_202.out, NB203_211.out, NB211_203.out, NB204_211.out, NB211_204.out, (by exact bB)⟩)
 rintro ⟨v206, v209, gb211⟩ w15 ⟨hS_, h0_, h1_, h2_, h3_, h4_, h5_, h6_, h7_, h8_, h9_, h10_, h11_, h12_, h13_, h14_⟩
 have n0_ : Aside0 (Kd.R (Kd.int .i64) 3 w15 w.heap.size (fun k_ => some k_ ≠ (v209 : Value).ownBlock) v206 t205) := ⟨h0_⟩
 have n1_ : Aside0 (Kd.R (Kd.int .i64) 3 w15 w.heap.size (fun k_ => some k_ ≠ (v206 : Value).ownBlock) v209 t208) := ⟨h1_⟩
 have n2_ : Aside0 (w15.heap[gb202]? = some (.cells #[.int .i64 a0_0, .slice A0_1 l0_1.length c0_1] 31 (0, 0))) := ⟨h2_⟩
 have n3_ : Aside0 (w15.heap[gb203]? = some (.cells #[.slice A1_0 l1_0.length c1_0, .slice A1_1 l1_1.length c1_1] 71 (0, 0))) := ⟨h3_⟩
 have n4_ : Aside0 (w15.heap[gb204]? = some (.cells #[.slice none 0 0, .slice none 0 0] 71 (0, 0))) := ⟨h4_⟩
 have n5_ : Aside0 (w15.heap[gb211]? = some (.cells #[.slice none 0 0, .slice none 0 0] 71 (0, 0))) := ⟨h5_⟩
 have n6_ : Aside0 (w.heap.size ≤ gb211) := ⟨h6_⟩
 have n7_ : Aside0 (w.heap.size ≤ gb211) := ⟨h7_⟩
 have n8_ : Aside0 (gb202 ≠ gb211) := ⟨h8_⟩
 have n9_ : Aside0 (gb211 ≠ gb202) := ⟨h9_⟩
 have n10_ : Aside0 (gb203 ≠ gb211) := ⟨h10_⟩
 have n11_ : Aside0 (gb211 ≠ gb203) := ⟨h11_⟩
 have n12_ : Aside0 (gb204 ≠ gb211) := ⟨h12_⟩
 have n13_ : Aside0 (gb211 ≠ gb204) := ⟨h13_⟩
 have n14_ : Aside0 (Below w.heap.size w w15) := ⟨h14_⟩
 clear BK202
 clear BK203
 clear BK204
 clear HB
 clear h0_ h1_ h2_ h3_ h4_ h5_ h6_ h7_ h8_ h9_ h10_ h11_ h12_ h13_ h14_
 have HO207 := n0_
 have HO210 := n1_
 have BK202 := n2_
 have BK203 := n3_
 have BK204 := n4_
 have BK211 := n5_
 have GW211 := n6_
 have GE211 := n7_
 have NB202_211 := n8_
 have NB211_202 := n9_
 have NB203_211 := n10_
 have NB211_203 := n11_
 have NB204_211 := n12_
 have NB211_204 := n13_
 have HB := n14_
 clear n0_ n1_ n2_ n3_ n4_ n5_ n6_ n7_ n8_ n9_ n10_ n11_ n12_ n13_ n14_
 have hHeld : w15.cell? ⟨gb203, 0, none⟩ = some (.slice A1_0 l1_0.length c1_0) ∧ w15.cell? ⟨gb203, 1, none⟩ = some (.slice A1_1 l1_1.length c1_1) := hS_
 obtain ⟨Ao16, co16, eo16⟩ := Kd.R_slice HO210.out
 (first | subst eo16 | (injection eo16 with f1_ f2_ f3_;have f4_ := f1_.symm;have f5_ := f3_.symm;clear f1_ f2_ f3_;subst f4_;subst f5_))
 obtain ⟨Ao17, co17, eo17⟩ := Kd.R_slice HO207.out
 (first | subst eo17 | (injection eo17 with f1_ f2_ f3_;have f4_ := f1_.symm;have f5_ := f3_.symm;clear f1_ f2_ f3_;subst f4_;subst f5_))
 refine norm_ (a' := ?_) ?_ ?_
 rotate_left
 ·simp only [putAll, Act.put, List.setIfInBounds_toArray, List.set_cons_zero, List.set_cons_succ]
  rfl
 refine one_ (i := 8) (N := none) #[true,true,true,true,true,true,true,true,true] rfl rfl (one_of HT_.out (by kernel_rfl)) (by decide) (fun K hK => ?_)
 have hs18 : w15.cell? ⟨gb211, 0, none⟩ = some (.slice none 0 0) := (blk_cell BK211.out 0).trans rfl
 have hfs18 := blk_frozen BK211.out 0
 have hns18_0 := NB202_211.out
 have hns18_1 := NB203_211.out
 have hns18_2 := NB204_211.out
 have hms18_0 := NB211_202.out
 have hms18_1 := NB211_203.out
 have hms18_2 := NB211_204.out
 have hs19 : w15.cell? ⟨gb211, 1, none⟩ = some (.slice none 0 0) := (blk_cell BK211.out 1).trans rfl
 have hfs19 := blk_frozen BK211.out 1
 have hns19_0 := NB202_211.out
 have hns19_1 := NB203_211.out
 have hns19_2 := NB204_211.out
 have hms19_0 := NB211_202.out
 have hms19_1 := NB211_203.out
 have hms19_2 := NB211_204.out
 refine skip_ (w1 := ?_) (by rfl) rfl ?_ ?_
 rotate_left
 ·go_simp
  rfl
 refine hK.out _ _ ⟨((cell_far (p := ⟨gb211, _, none⟩) NB203_211.out _).trans (((cell_far (p := ⟨gb211, _, none⟩) NB203_211.out _).trans (hHeld.1)))), ((cell_far (p := ⟨gb211, _, none⟩) NB203_211.out _).trans (((cell_far (p := ⟨gb211, _, none⟩) NB203_211.out _).trans (hHeld.2))))⟩ (fun hHeld => ?_)
 clear hK K
 refine done_ (done_of HT_.out (by kernel_rfl)) ?_
 try go_wp2
 go_loopg [8] k (fun kq v8 w' => ∃ (x8_1 : Int) (x212001_1 : List Int) (u212001 : Value), v8 = .int .i64 x8_1 ∧ Aside0 (spec_l8Round.l0 kq l2 x8_1 a0_0 l0_1 t205 x212001_1 = some (r1, r2)) ∧ Aside0 (kq ≤ k) ∧ Aside0 (Kd.R (Kd.int .i64) 3 w' w.heap.size (fun k_ => some k_ ≠ (u212001 : Value).ownBlock) (.slice Ao17 t205.length co17) t205) ∧ Aside0 (Kd.R (Kd.int .i64) 3 w' w.heap.size (fun k_ => some k_ ≠ ((.slice Ao17 t205.length co17) : Value).ownBlock) u212001 x212001_1) ∧ Aside0 (w'.heap[gb202]? = some (.cells #[.int .i64 a0_0, (.slice A0_1 l0_1.length c0_1)] 31 (0, 0))) ∧ Aside0 (w'.heap[gb203]? = some (.cells #[(.slice A1_0 l1_0.length c1_0), (.slice A1_1 l1_1.length c1_1)] 71 (0, 0))) ∧ Aside0 (w'.heap[gb204]? = some (.cells #[(.slice none 0 0), (.slice none 0 0)] 71 (0, 0))) ∧ Aside0 (w'.heap[gb211]? = some (.cells #[(.slice Ao17 t205.length co17), u212001] 71 (0, 0))) ∧ Aside0 (Below w.heap.size w w'))
 case atStart => exact ⟨(0), (t208), (.slice Ao16 t208.length co16), (by first | rfl | (simp;done) | (simp [*];done)), H', ⟨Nat.le_refl _⟩, ⟨by refine rP ?_;exact Kd.R_mono (Kd.R_far (p := ⟨gb211, 1, none⟩) (Kd.R_far (p := ⟨gb211, 0, none⟩) (Kd.R_types HO207.out BK211.out (by decide)) (fun _ hk => hk.2) (.slice Ao17 t205.length co17)) (fun _ hk => hk.2) (.slice Ao16 t208.length co16)) (fun _ hk => hk.1)⟩, ⟨by refine rP ?_;exact Kd.R_mono (Kd.R_far (p := ⟨gb211, 1, none⟩) (Kd.R_far (p := ⟨gb211, 0, none⟩) (Kd.R_types HO210.out BK211.out (by decide)) (fun _ hk => hk.2) (.slice Ao17 t205.length co17)) (fun _ hk => hk.2) (.slice Ao16 t208.length co16)) (fun _ hk => hk.1)⟩, ⟨by refine kP ?_;refine blk_far ?_ NB202_211.out _;refine kP ?_;refine blk_far ?_ NB202_211.out _;exact kP BK202.out⟩, ⟨by refine kP ?_;refine blk_far ?_ NB203_211.out _;refine kP ?_;refine blk_far ?_ NB203_211.out _;exact kP BK203.out⟩, ⟨by refine kP ?_;refine blk_far ?_ NB204_211.out _;refine kP ?_;refine blk_far ?_ NB204_211.out _;exact kP BK204.out⟩, ⟨by refine kP ?_;refine blk_put (cs := #[.slice Ao17 t205.length co17, .slice none 0 0]) ?_ 1 _ rfl;refine kP ?_;refine blk_put (cs := #[.slice none 0 0, .slice none 0 0]) ?_ 0 _ rfl;exact kP BK211.out⟩, ⟨by exact bB⟩⟩
 case round =>
  clear H'
  try clear c1
  try clear c2
  try clear p2
  try clear c7
  try clear c11
  obtain ⟨x8_1, x212001_1, u212001, rfl, HA, HK1, HO_212000, HO_212001, BK202, BK203, BK204, BK211, HB⟩ := hrel
  cases gk with
  | zero => exact absurd HA.out (by simp [spec_l8Round.l0])
  | succ k1 =>
   have H := HA.out
   clear HA
   simp only [spec_l8Round.l0] at H
   by_cases c20 : x8_1 < (l2.length : Int)
   ·rw [if_pos c20] at H
    have c20b0 : decide (x8_1 < (l2.length : Int)) = true := decide_eq_true c20
    clear c20
    by_cases c21 : 0 ≤ x8_1
    ·rw [if_pos c21] at H
     have c21b0 : decide (0 ≤ x8_1) = true := decide_eq_true c21
     clear c21
     replace H := Option.bind_eq_some_iff.mp H
     obtain ⟨t213, A220, H⟩ := H
     replace H : (spec_l8Round.l0 k1 l2 (wrap64 (x8_1 + 1)) a0_0 l0_1 t205 t213) = some (r1, r2) := H
     have A22 := Aside0.mk A220
     clear A220
     have H' := Aside0.mk H
     clear H
     try go_wp2
     have n0_ := Aside0.mk (Kd.R_drew HO_212000.out)
     have n1_ := Aside0.mk (Kd.R_drew HO_212001.out)
     have n2_ := Aside0.mk (blk_drew BK202.out)
     have n3_ := Aside0.mk (blk_drew BK203.out)
     have n4_ := Aside0.mk (blk_drew BK204.out)
     have n5_ := Aside0.mk (blk_drew BK211.out)
     have n6_ := Aside0.mk (below_drew1 HB.out)
     clear HO_212000
     clear HO_212001
     clear BK202
     clear BK203
     clear BK204
     clear BK211
     clear HB
     have HO_212000 := n0_
     have HO_212001 := n1_
     have BK202 := n2_
     have BK203 := n3_
     have BK204 := n4_
     have BK211 := n5_
     have HB := n6_
     clear n0_ n1_ n2_ n3_ n4_ n5_ n6_
     have p212 : 0 ≤ (x8_1 : Int) := oA
     have q212 : x8_1 < (l2.length : Int) := oA
     obtain ⟨ad212, e212, hx212_0⟩ := Kd.at_int HR2.out x8_1 p212 q212
     have hw212_0 := hx212_0
     cases e212
     replace hx212_0 := (HB.out.cell (World.block_lt_of_cell? w _ hx212_0)).trans hx212_0
     replace p212 := eq_true p212
     replace q212 := eq_true q212
     obtain ⟨Ao24, co24, eo24⟩ := Kd.R_slice HO_212001.out
     (first | subst eo24 | (injection eo24 with f1_ f2_ f3_;have f4_ := f1_.symm;have f5_ := f3_.symm;clear f1_ f2_ f3_;subst f4_;subst f5_))
     refine start_ (n := 9) (S := fun w' => w'.cell? ⟨gb211, 0, none⟩ = some (.slice Ao17 t205.length co17) ∧ w'.cell? ⟨gb211, 1, none⟩ = some (.slice Ao24 x212001_1.length co24) ∧ w'.cell? (ad212.add (x8_1).toNat) = some (.int .i64 (rd l2 x8_1))) (ds := [8]) #[false,false,false,false,false,false,false,false,false] (by kernel_rfl) rfl rfl ⟨(blk_cell BK211.out 0).trans rfl, (blk_cell BK211.out 1).trans rfl, ((HB.out.cell (World.block_lt_of_cell? w _ hw212_0)).trans hw212_0)⟩ (fun hHeld => ?_);refine with_tabW spec_l8Round.tab5 spec_l8Round.bits5 (fun HT_ HW_ => ?_)
     generalize wr.drew = w23 at HO_212000 HO_212001 BK202 BK203 BK204 BK211 HB hx212_0 hHeld ⊢
     refine pure_ (i := 0) (N := some 24) (v := ?_) (a' := ?_) #[true,false,false,false,false,false,false,false,false] rfl rfl (any_of HT_.out (by kernel_rfl)) (fun _ _ _ h => h) (Or.inl ⟨by rfl, ?_⟩) ?_ ?_
     rotate_left
     ·intro w'
      go_simp
      with_reducible rfl
     rotate_left
     ·simp only [Act.put, List.setIfInBounds_toArray, List.set_cons_zero, List.set_cons_succ, i64_w, i32_w]
      rfl
     refine pure_ (i := 2) (N := some 26) (v := ?_) (a' := ?_) #[true,false,true,false,false,false,false,false,false] rfl rfl (any_of HT_.out (by kernel_rfl)) (fun _ _ _ h => h) (Or.inl ⟨by rfl, ?_⟩) ?_ ?_
     rotate_left
     ·intro w'
      go_simp
      with_reducible rfl
     rotate_left
     ·simp only [Act.put, List.setIfInBounds_toArray, List.set_cons_zero, List.set_cons_succ, i64_w, i32_w]
      rfl
     refine pure_ (i := 3) (N := some 27) (v := ?_) (a' := ?_) #[true,false,true,true,false,false,false,false,false] rfl rfl (any_of HT_.out (by kernel_rfl)) (fun _ _ _ h => h) (Or.inl ⟨by rfl, ?_⟩) ?_ ?_
     rotate_left
     ·intro w'
      go_simp
      with_reducible rfl
     rotate_left
     ·simp only [Act.put, List.setIfInBounds_toArray, List.set_cons_zero, List.set_cons_succ, i64_w, i32_w]
      rfl
     refine pure_ (i := 4) (N := some 28) (v := ?_) (a' := ?_) #[true,false,true,true,true,false,false,false,false] rfl rfl (any_of HT_.out (by kernel_rfl)) (fun _ _ _ h => h) (Or.inl ⟨by rfl, ?_⟩) ?_ ?_
     rotate_left
     ·intro w'
      go_simp
      with_reducible rfl
     rotate_left
     ·simp only [Act.put, List.setIfInBounds_toArray, List.set_cons_zero, List.set_cons_succ, i64_w, i32_w]
      rfl
     refine take_ (i := 1) (N := some 25) (v := ?_) (a' := ?_) #[true,true,true,true,true,false,false,false,false] rfl rfl (take_ofW HT_.out HW_.out (by kernel_rfl)) (fun _ _ _ h => h) (Or.inl ⟨by rfl, ?_⟩) hHeld ?_ ?_
     rotate_left
     ·rintro w' ⟨s0, s1, s2⟩
      go_simp
      with_reducible rfl
     rotate_left
     ·simp only [Act.put, List.setIfInBounds_toArray, List.set_cons_zero, List.set_cons_succ, i64_w, i32_w]
      rfl
     refine take_ (i := 5) (N := some 29) (v := ?_) (a' := ?_) #[true,true,true,true,true,true,false,false,false] rfl rfl (take_ofW HT_.out HW_.out (by kernel_rfl)) (fun _ _ _ h => h) (Or.inl ⟨by rfl, ?_⟩) hHeld ?_ ?_
     rotate_left
     ·rintro w' ⟨s0, s1, s2⟩
      go_simp
      with_reducible rfl
     rotate_left
     ·simp only [Act.put, List.setIfInBounds_toArray, List.set_cons_zero, List.set_cons_succ, i64_w, i32_w]
      rfl
     refine one_ (i := 6) (N := some 30) #[true,true,true,true,true,true,true,false,false] rfl rfl (one_of HT_.out (by kernel_rfl)) (by decide) (fun K hK => ?_)
     refine goes_ Try.func144 (by kernel_rfl) rfl #[.slice Ao24 x212001_1.length co24, .int .i64 (rd l2 x8_1)] (by rfl) rfl rfl mM ?_
     with_reducible refine (spec_l1Put.calls (fun k_ => some k_ = (.slice Ao24 x212001_1.length co24 : Value).ownBlock) (.slice Ao24 x212001_1.length co24) x212001_1 (rd l2 x8_1) t213 w _ ?side1 ?side2 A22.out).mono ?_
     (case side1 => exact bB)
     (case side2 => exact Kd.R_tight rfl HO_212001.out)
     rintro e w25 ⟨v214, rfl, ho0, hb, hkp⟩
     refine ⟨_, rfl, ?_⟩
     have n0_ := Aside0.mk (Kd.R_mono (ok' := fun k_ => some k_ ≠ (v214 : Value).ownBlock) (Kd.R_keptB (HO_212000.out) hkp (fun k_ hk_ hs_ => (hk_) hs_)) (fun k_ hk_ => fun e_ => Or.elim (ho0.1 k_ e_.symm) (fun hs_ => hk_.2.1 hs_) (fun hn_ => Nat.not_le.2 hk_.2.2 hn_)))
     have n1_ := Aside0.mk (blk_kept (by exact kP BK202.out) hkp (fun hs_ => (fun e_ => (Kd.R_ne HO_212001.out BK202.out (by decide)) e_) hs_))
     have n2_ := Aside0.mk (blk_kept (by exact kP BK203.out) hkp (fun hs_ => (fun e_ => (Kd.R_ne HO_212001.out BK203.out (by decide)) e_) hs_))
     have n3_ := Aside0.mk (blk_kept (by exact kP BK204.out) hkp (fun hs_ => (fun e_ => (Kd.R_ne HO_212001.out BK204.out (by decide)) e_) hs_))
     have n4_ := Aside0.mk (blk_kept (by exact kP BK211.out) hkp (fun hs_ => (fun e_ => (Kd.R_ne HO_212001.out BK211.out (by decide)) e_) hs_))
     have n5_ := Aside0.mk (Kd.R_mono (ok' := fun k_ => some k_ ≠ (.slice Ao17 t205.length co17 : Value).ownBlock) ho0 (fun k_ hk_ => Or.elim hk_ (fun hs_ => fun e_ => (((HO_212000.out).1 k_ e_.symm)) hs_) (fun hn_ => (Kd.fresh' (Kd.R_lt (by exact rP HO_212000.out)) k_ hn_))))
     have n6_ := Aside0.mk (hb)
     clear HO_212000
     clear BK202
     clear BK203
     clear BK204
     clear BK211
     clear HB
     clear HO_212001
     have HO_212000 := n0_
     have BK202 := n1_
     have BK203 := n2_
     have BK204 := n3_
     have BK211 := n4_
     have HO215 := n5_
     have HB := n6_
     clear n0_ n1_ n2_ n3_ n4_ n5_ n6_
     (try clear hb)
     (try clear hkp)
     (try clear ho0)
     obtain ⟨Ao26, co26, eo26⟩ := Kd.R_slice HO215.out
     (first | subst eo26 | (injection eo26 with f1_ f2_ f3_;have f4_ := f1_.symm;have f5_ := f3_.symm;clear f1_ f2_ f3_;subst f4_;subst f5_))
     refine hK.out _ _ ⟨(blk_cell BK211.out 0).trans rfl, (blk_cell BK211.out 1).trans rfl, ((HB.out.cell (World.block_lt_of_cell? w _ hw212_0)).trans hw212_0)⟩ (fun hHeld => ?_)
     clear hK K
     refine norm_ (a' := ?_) ?_ ?_
     rotate_left
     ·show Act.put _ (some 30) _ = _
      simp only [Act.put, List.setIfInBounds_toArray, List.set_cons_zero, List.set_cons_succ, i64_w, i32_w]
      rfl
     refine pure_ (i := 7) (N := some 31) (v := ?_) (a' := ?_) #[true,true,true,true,true,true,true,true,false] rfl rfl (any_of HT_.out (by kernel_rfl)) (fun _ _ _ h => h) (Or.inl ⟨by rfl, ?_⟩) ?_ ?_
     rotate_left
     ·intro w'
      go_simp
      with_reducible rfl
     rotate_left
     ·simp only [Act.put, List.setIfInBounds_toArray, List.set_cons_zero, List.set_cons_succ, i64_w, i32_w]
      rfl
     refine last_ (i := 8) (N := none) #[true,true,true,true,true,true,true,true,true] rfl rfl (one_of HT_.out (by kernel_rfl)) (by decide) (fun K hK => ?_)
     have hs27 : w25.cell? ⟨gb211, 1, none⟩ = some (.slice Ao24 x212001_1.length co24) := (blk_cell BK211.out 1).trans rfl
     have hfs27 := blk_frozen BK211.out 1
     have hns27_0 := NB202_211.out
     have hns27_1 := NB203_211.out
     have hns27_2 := NB204_211.out
     have hms27_0 := NB211_202.out
     have hms27_1 := NB211_203.out
     have hms27_2 := NB211_204.out
     refine skip_ (w1 := ?_) (by rfl) rfl ?_ ?_
     rotate_left
     ·go_simp
      rfl
     refine hK.out _ _ ?_
     clear hK K
     refine done_ (done_of HT_.out (by kernel_rfl)) ?_
     try go_wp2
     go_roundg k1
     case measure => have := HK1.out;omega
     case rel => exact ⟨(wrap64 (x8_1 + 1)), (t213), (.slice Ao26 t213.length co26), (by first | rfl | (simp;done) | (simp [*];done)), H', ⟨by have := HK1.out;omega⟩, ⟨by refine rP ?_;exact Kd.R_mono (Kd.R_far (p := ⟨gb211, 1, none⟩) (Kd.R_types HO_212000.out BK211.out (by decide)) (fun _ hk => hk.2) (.slice Ao26 t213.length co26)) (fun _ hk => hk.1)⟩, ⟨by refine rP ?_;exact Kd.R_mono (Kd.R_far (p := ⟨gb211, 1, none⟩) (Kd.R_types HO215.out BK211.out (by decide)) (fun _ hk => hk.2) (.slice Ao26 t213.length co26)) (fun _ hk => hk.1)⟩, ⟨by refine kP ?_;refine blk_far ?_ NB202_211.out _;exact kP BK202.out⟩, ⟨by refine kP ?_;refine blk_far ?_ NB203_211.out _;exact kP BK203.out⟩, ⟨by refine kP ?_;refine blk_far ?_ NB204_211.out _;exact kP BK204.out⟩, ⟨by refine kP ?_;refine blk_put (cs := #[.slice Ao17 t205.length co17, .slice Ao24 x212001_1.length co24]) ?_ 1 _ rfl;exact kP BK211.out⟩, ⟨by exact bB⟩⟩
    ·rw [if_neg c21] at H
     exact absurd H (by simp)
   ·rw [if_neg c20] at H
    have c20b0 : decide (x8_1 < (l2.length : Int)) = false := decide_eq_false c20
    clear c20
    replace H := Option.bind_eq_some_iff.mp H
    obtain ⟨t216, A280, H⟩ := H
    replace H : (spec_l8Round.l1 k1 t216 0 t205 x212001_1) = some (r1, r2) := H
    have A28 := Aside0.mk A280
    clear A280
    have H' := Aside0.mk H
    clear H
    have hnb29 := NB202_203.out
    have hnc29 := NB203_202.out
    have hnb30 := NB202_204.out
    have hnc30 := NB204_202.out
    have hnb31 := NB202_211.out
    have hnc31 := NB211_202.out
    have hcz32_0 : wr.cell? ⟨gb202, 0, none⟩ = some (.int .i64 a0_0) := (blk_cell BK202.out 0).trans rfl
    have hcz32_1 : wr.cell? ⟨gb202, 1, none⟩ = some (.slice A0_1 l0_1.length c0_1) := (blk_cell BK202.out 1).trans rfl
    have hfz32_0 := blk_frozen BK202.out 0
    have hfz32_1 := blk_frozen BK202.out 1
    have hnb33 := NB211_203.out
    have hnc33 := NB203_211.out
    have hnb34 := NB211_204.out
    have hnc34 := NB204_211.out
    have hcz35_0 : wr.cell? ⟨gb211, 0, none⟩ = some (.slice Ao17 t205.length co17) := (blk_cell BK211.out 0).trans rfl
    have hcz35_1 : wr.cell? ⟨gb211, 1, none⟩ = some (u212001) := (blk_cell BK211.out 1).trans rfl
    have hfz35_0 := blk_frozen BK211.out 0
    have hfz35_1 := blk_frozen BK211.out 1
    obtain ⟨Ao36, co36, eo36⟩ := Kd.R_slice HO_212001.out
    subst eo36
    go_wp2_with (first | ((with_reducible refine gate_callee (f := 119) rfl ?_);refine goesL_ (some 34) rfl rfl Try.func119 (by kernel_rfl) rfl #[.agg #[.int .i64 a0_0, .slice A0_1 l0_1.length c0_1], .agg #[.slice Ao17 t205.length co17, .slice Ao36 x212001_1.length co36]] rfl mM ?_;(with_reducible refine (spec_l8Next.calls k1 a0_0 _ _ l0_1 _ _ t205 _ _ x212001_1 t216 _ ?side1 ?side2 ?side3 ?side4 ?side5 ?side6 A28.out).mono ?_);(case side1 => exact cP (Kd.C_below HR0_1.out HB.out));(case side2 => exact HC0_1.out);(case side3 => exact cP (Kd.R_reads' HO_212000.out).2.2);(case side4 => exact (Kd.R_reads' HO_212000.out).2.1);(case side5 => exact cP (Kd.R_reads' HO_212001.out).2.2);(case side6 => exact (Kd.R_reads' HO_212001.out).2.1);rintro e w37 ⟨v217, rfl, ho0, hb⟩;refine ⟨_, rfl, ?_⟩;have n0_ := Aside0.mk (Kd.R_elder' (by exact rP HO_212000.out) (Kd.R_base ho0) hb);have n1_ := Aside0.mk (Kd.R_elder' (by exact rP HO_212001.out) (Kd.R_base ho0) hb);have n2_ := Aside0.mk (Kd.R_lower (Kd.R_new' (Kd.R_new' ho0 (Kd.R_lt (by exact rP HO_212000.out))) (Kd.R_lt (by exact rP HO_212001.out))) (below_size (by exact bB)));have n3_ := Aside0.mk (blk_below (g := gb202) (o := .cells #[.int .i64 a0_0, .slice A0_1 l0_1.length c0_1] 31 (0, 0)) (by exact kP BK202.out) hb);have n4_ := Aside0.mk (blk_below (g := gb203) (o := .cells #[.slice A1_0 l1_0.length c1_0, .slice A1_1 l1_1.length c1_1] 71 (0, 0)) (by exact kP BK203.out) hb);have n5_ := Aside0.mk (blk_below (g := gb204) (o := .cells #[.slice none 0 0, .slice none 0 0] 71 (0, 0)) (by exact kP BK204.out) hb);have n6_ := Aside0.mk (blk_below (g := gb211) (o := .cells #[.slice Ao17 t205.length co17, .slice Ao36 x212001_1.length co36] 71 (0, 0)) (by exact kP BK211.out) hb);have n7_ := Aside0.mk (below_step (by exact bB) hb);clear HO_212000;clear HO_212001;clear BK202;clear BK203;clear BK204;clear BK211;clear HB;have HO_212000 := n0_;have HO_212001 := n1_;have HO218 := n2_;have BK202 := n3_;have BK203 := n4_;have BK204 := n5_;have BK211 := n6_;have HB := n7_;clear n0_ n1_ n2_ n3_ n4_ n5_ n6_ n7_;(try clear hb);(try clear hb2);(try clear hk);(try clear hi);(try clear ho0)))
    go_loopg [10] k1 (fun kq v10 w' => ∃ (x10_2 : Int) (x212000_2 : List Int) (u212000 : Value), v10 = .int .i64 x10_2 ∧ Aside0 (spec_l8Round.l1 kq t216 x10_2 x212000_2 x212001_1 = some (r1, r2)) ∧ Aside0 (kq ≤ k1) ∧ Aside0 (Kd.R (Kd.int .i64) 3 w' w.heap.size (fun k_ => some k_ ≠ (u212000 : Value).ownBlock ∧ some k_ ≠ ((.slice Ao36 x212001_1.length co36) : Value).ownBlock) v217 t216) ∧ Aside0 (Kd.R (Kd.int .i64) 3 w' w.heap.size (fun k_ => some k_ ≠ (v217 : Value).ownBlock ∧ some k_ ≠ ((.slice Ao36 x212001_1.length co36) : Value).ownBlock) u212000 x212000_2) ∧ Aside0 (Kd.R (Kd.int .i64) 3 w' w.heap.size (fun k_ => some k_ ≠ (v217 : Value).ownBlock ∧ some k_ ≠ (u212000 : Value).ownBlock) (.slice Ao36 x212001_1.length co36) x212001_1) ∧ Aside0 (w'.heap[gb202]? = some (.cells #[.int .i64 a0_0, (.slice A0_1 l0_1.length c0_1)] 31 (0, 0))) ∧ Aside0 (w'.heap[gb203]? = some (.cells #[(.slice A1_0 l1_0.length c1_0), (.slice A1_1 l1_1.length c1_1)] 71 (0, 0))) ∧ Aside0 (w'.heap[gb204]? = some (.cells #[(.slice none 0 0), (.slice none 0 0)] 71 (0, 0))) ∧ Aside0 (w'.heap[gb211]? = some (.cells #[u212000, (.slice Ao36 x212001_1.length co36)] 71 (0, 0))) ∧ Aside0 (Below w.heap.size w w'))
    case atStart => exact ⟨(0), (t205), (.slice Ao17 t205.length co17), (by first | rfl | (simp;done) | (simp [*];done)), H', ⟨Nat.le_refl _⟩, ⟨by refine rP ?_;exact Kd.R_mono HO218.out (fun _ hk => ⟨hk.1.2, hk.2⟩)⟩, ⟨by refine rP ?_;exact Kd.R_mono HO_212000.out (fun _ hk => ⟨hk.2, hk.1⟩)⟩, ⟨by refine rP ?_;exact Kd.R_mono HO_212001.out (fun _ hk => ⟨hk.2, hk.1⟩)⟩, ⟨by exact kP BK202.out⟩, ⟨by exact kP BK203.out⟩, ⟨by exact kP BK204.out⟩, ⟨by exact kP BK211.out⟩, ⟨by exact bB⟩⟩
    case round =>
     clear H'
     try clear c1
     try clear c2
     try clear p2
     try clear q2
     try clear hx2
     try clear c3
     try clear p6
     try clear c7
     try clear c11
     try clear c14
     try clear c20
     try clear c20b0
     try clear c21
     try clear c21b0
     try clear p21
     try clear q21
     try clear hx21
     try clear c29
     try clear c30
     try clear c31
     try clear c33
     try clear c34
     try clear hcz32_0
     try clear hcz32_1
     try clear hcz35_0
     try clear hcz35_1
     try clear hfz32_0
     try clear hfz32_1
     try clear hfz35_0
     try clear hfz35_1
     try clear hx212_0
     try clear p2
     try clear p212
     try clear q212
     obtain ⟨x10_2, x212000_2, u212000, rfl, HA, HK2, HO_9, HO_212000, HO_212001, BK202, BK203, BK204, BK211, HB⟩ := hrel
     cases gk with
     | zero => exact absurd HA.out (by simp [spec_l8Round.l1])
     | succ k2 =>
      have H := HA.out
      clear HA
      simp only [spec_l8Round.l1] at H
      by_cases c38 : x10_2 < (t216.length : Int)
      ·rw [if_pos c38] at H
       have c38b0 : decide (x10_2 < (t216.length : Int)) = true := decide_eq_true c38
       clear c38
       by_cases c39 : 0 ≤ x10_2
       ·rw [if_pos c39] at H
        have c39b0 : decide (0 ≤ x10_2) = true := decide_eq_true c39
        clear c39
        replace H := Option.bind_eq_some_iff.mp H
        obtain ⟨t220, A400, H⟩ := H
        replace H : (spec_l8Round.l1 k2 t216 (wrap64 (x10_2 + 1)) t220 x212001_1) = some (r1, r2) := H
        have A40 := Aside0.mk A400
        clear A400
        have H' := Aside0.mk H
        clear H
        obtain ⟨Ao41, co41, eo41⟩ := Kd.R_slice HO_9.out
        subst eo41
        try go_wp2
        have n0_ := Aside0.mk (Kd.R_drew HO_9.out)
        have n1_ := Aside0.mk (Kd.R_drew HO_212000.out)
        have n2_ := Aside0.mk (Kd.R_drew HO_212001.out)
        have n3_ := Aside0.mk (blk_drew BK202.out)
        have n4_ := Aside0.mk (blk_drew BK203.out)
        have n5_ := Aside0.mk (blk_drew BK204.out)
        have n6_ := Aside0.mk (blk_drew BK211.out)
        have n7_ := Aside0.mk (below_drew1 HB.out)
        clear HO_9
        clear HO_212000
        clear HO_212001
        clear BK202
        clear BK203
        clear BK204
        clear BK211
        clear HB
        have HO_9 := n0_
        have HO_212000 := n1_
        have HO_212001 := n2_
        have BK202 := n3_
        have BK203 := n4_
        have BK204 := n5_
        have BK211 := n6_
        have HB := n7_
        clear n0_ n1_ n2_ n3_ n4_ n5_ n6_ n7_
        have p219 : 0 ≤ (x10_2 : Int) := oA
        have q219 : x10_2 < (t216.length : Int) := oA
        obtain ⟨ad219, e219, hx219_0⟩ := Kd.at_int (Kd.R_reads' HO_9.out).2.2 x10_2 p219 q219
        cases e219
        replace p219 := eq_true p219
        replace q219 := eq_true q219
        obtain ⟨Ao43, co43, eo43⟩ := Kd.R_slice HO_212000.out
        (first | subst eo43 | (injection eo43 with f1_ f2_ f3_;have f4_ := f1_.symm;have f5_ := f3_.symm;clear f1_ f2_ f3_;subst f4_;subst f5_))
        refine start_ (n := 9) (S := fun w' => w'.cell? ⟨gb211, 0, none⟩ = some (.slice Ao43 x212000_2.length co43) ∧ w'.cell? ⟨gb211, 1, none⟩ = some (.slice Ao36 x212001_1.length co36) ∧ w'.cell? (ad219.add (x10_2).toNat) = some (.int .i64 (rd t216 x10_2))) (ds := [8]) #[false,false,false,false,false,false,false,false,false] (by kernel_rfl) rfl rfl ⟨(blk_cell BK211.out 0).trans rfl, (blk_cell BK211.out 1).trans rfl, hx219_0⟩ (fun hHeld => ?_);refine with_tabW spec_l8Round.tab10 spec_l8Round.bits10 (fun HT_ HW_ => ?_)
        generalize wr.drew = w42 at HO_9 HO_212000 HO_212001 BK202 BK203 BK204 BK211 HB hx219_0 hHeld ⊢
        refine pure_ (i := 0) (N := some 41) (v := ?_) (a' := ?_) #[true,false,false,false,false,false,false,false,false] rfl rfl (any_of HT_.out (by kernel_rfl)) (fun _ _ _ h => h) (Or.inl ⟨by rfl, ?_⟩) ?_ ?_
        rotate_left
        ·intro w'
         go_simp
         with_reducible rfl
        rotate_left
        ·simp only [Act.put, List.setIfInBounds_toArray, List.set_cons_zero, List.set_cons_succ, i64_w, i32_w]
         rfl
        refine pure_ (i := 2) (N := some 43) (v := ?_) (a' := ?_) #[true,false,true,false,false,false,false,false,false] rfl rfl (any_of HT_.out (by kernel_rfl)) (fun _ _ _ h => h) (Or.inl ⟨by rfl, ?_⟩) ?_ ?_
        rotate_left
        ·intro w'
         go_simp
         with_reducible rfl
        rotate_left
        ·simp only [Act.put, List.setIfInBounds_toArray, List.set_cons_zero, List.set_cons_succ, i64_w, i32_w]
         rfl
        refine pure_ (i := 3) (N := some 44) (v := ?_) (a' := ?_) #[true,false,true,true,false,false,false,false,false] rfl rfl (any_of HT_.out (by kernel_rfl)) (fun _ _ _ h => h) (Or.inl ⟨by rfl, ?_⟩) ?_ ?_
        rotate_left
        ·intro w'
         go_simp
         with_reducible rfl
        rotate_left
        ·simp only [Act.put, List.setIfInBounds_toArray, List.set_cons_zero, List.set_cons_succ, i64_w, i32_w]
         rfl
        refine pure_ (i := 4) (N := some 45) (v := ?_) (a' := ?_) #[true,false,true,true,true,false,false,false,false] rfl rfl (any_of HT_.out (by kernel_rfl)) (fun _ _ _ h => h) (Or.inl ⟨by rfl, ?_⟩) ?_ ?_
        rotate_left
        ·intro w'
         go_simp
         with_reducible rfl
        rotate_left
        ·simp only [Act.put, List.setIfInBounds_toArray, List.set_cons_zero, List.set_cons_succ, i64_w, i32_w]
         rfl
        refine take_ (i := 1) (N := some 42) (v := ?_) (a' := ?_) #[true,true,true,true,true,false,false,false,false] rfl rfl (take_ofW HT_.out HW_.out (by kernel_rfl)) (fun _ _ _ h => h) (Or.inl ⟨by rfl, ?_⟩) hHeld ?_ ?_
        rotate_left
        ·rintro w' ⟨s0, s1, s2⟩
         go_simp
         with_reducible rfl
        rotate_left
        ·simp only [Act.put, List.setIfInBounds_toArray, List.set_cons_zero, List.set_cons_succ, i64_w, i32_w]
         rfl
        refine take_ (i := 5) (N := some 46) (v := ?_) (a' := ?_) #[true,true,true,true,true,true,false,false,false] rfl rfl (take_ofW HT_.out HW_.out (by kernel_rfl)) (fun _ _ _ h => h) (Or.inl ⟨by rfl, ?_⟩) hHeld ?_ ?_
        rotate_left
        ·rintro w' ⟨s0, s1, s2⟩
         go_simp
         with_reducible rfl
        rotate_left
        ·simp only [Act.put, List.setIfInBounds_toArray, List.set_cons_zero, List.set_cons_succ, i64_w, i32_w]
         rfl
        refine one_ (i := 6) (N := some 47) #[true,true,true,true,true,true,true,false,false] rfl rfl (one_of HT_.out (by kernel_rfl)) (by decide) (fun K hK => ?_)
        refine goes_ Try.func144 (by kernel_rfl) rfl #[.slice Ao43 x212000_2.length co43, .int .i64 (rd t216 x10_2)] (by rfl) rfl rfl mM ?_
        with_reducible refine (spec_l1Put.calls (fun k_ => some k_ = (.slice Ao43 x212000_2.length co43 : Value).ownBlock) (.slice Ao43 x212000_2.length co43) x212000_2 (rd t216 x10_2) t220 w _ ?side1 ?side2 A40.out).mono ?_
        (case side1 => exact bB)
        (case side2 => exact Kd.R_tight rfl HO_212000.out)
        rintro e w44 ⟨v221, rfl, ho0, hb, hkp⟩
        have HS2_ := cell_kept (hHeld.2.2) hkp (by first | (rw [add_block];exact (fun hs_ => (((HO_9.out).1 _ rfl).1) hs_)) | (show ¬ _;simp only [add_block];exact (fun hs_ => (((HO_9.out).1 _ rfl).1) hs_)) | exact (fun hs_ => (((HO_9.out).1 _ rfl).1) hs_))
        refine ⟨_, rfl, ?_⟩
        have n0_ := Aside0.mk (Kd.R_mono (ok' := fun k_ => some k_ ≠ (.slice Ao36 x212001_1.length co36 : Value).ownBlock ∧ some k_ ≠ (v221 : Value).ownBlock) (Kd.R_keptB (HO_9.out) hkp (fun k_ hk_ hs_ => (hk_.1) hs_)) (fun k_ hk_ => ⟨hk_.1.2, fun e_ => Or.elim (ho0.1 k_ e_.symm) (fun hs_ => hk_.2.1 hs_) (fun hn_ => Nat.not_le.2 hk_.2.2 hn_)⟩))
        have n1_ := Aside0.mk (Kd.R_mono (ok' := fun k_ => some k_ ≠ (.slice (some ad219) t216.length co41 : Value).ownBlock ∧ some k_ ≠ (v221 : Value).ownBlock) (Kd.R_keptB (HO_212001.out) hkp (fun k_ hk_ hs_ => (hk_.2) hs_)) (fun k_ hk_ => ⟨hk_.1.1, fun e_ => Or.elim (ho0.1 k_ e_.symm) (fun hs_ => hk_.2.1 hs_) (fun hn_ => Nat.not_le.2 hk_.2.2 hn_)⟩))
        have n2_ := Aside0.mk (blk_kept (by exact kP BK202.out) hkp (fun hs_ => (fun e_ => (Kd.R_ne HO_212000.out BK202.out (by decide)) e_) hs_))
        have n3_ := Aside0.mk (blk_kept (by exact kP BK203.out) hkp (fun hs_ => (fun e_ => (Kd.R_ne HO_212000.out BK203.out (by decide)) e_) hs_))
        have n4_ := Aside0.mk (blk_kept (by exact kP BK204.out) hkp (fun hs_ => (fun e_ => (Kd.R_ne HO_212000.out BK204.out (by decide)) e_) hs_))
        have n5_ := Aside0.mk (blk_kept (by exact kP BK211.out) hkp (fun hs_ => (fun e_ => (Kd.R_ne HO_212000.out BK211.out (by decide)) e_) hs_))
        have n6_ := Aside0.mk (Kd.R_mono (ok' := fun k_ => some k_ ≠ (.slice (some ad219) t216.length co41 : Value).ownBlock ∧ some k_ ≠ (.slice Ao36 x212001_1.length co36 : Value).ownBlock) ho0 (fun k_ hk_ => ⟨Or.elim hk_ (fun hs_ => fun e_ => (((HO_9.out).1 k_ e_.symm).1) hs_) (fun hn_ => (Kd.fresh' (Kd.R_lt (by exact rP HO_9.out)) k_ hn_)), Or.elim hk_ (fun hs_ => fun e_ => (((HO_212001.out).1 k_ e_.symm).2) hs_) (fun hn_ => (Kd.fresh' (Kd.R_lt (by exact rP HO_212001.out)) k_ hn_))⟩))
        have n7_ := Aside0.mk (hb)
        clear HO_9
        clear HO_212001
        clear BK202
        clear BK203
        clear BK204
        clear BK211
        clear HB
        clear HO_212000
        have HO_9 := n0_
        have HO_212001 := n1_
        have BK202 := n2_
        have BK203 := n3_
        have BK204 := n4_
        have BK211 := n5_
        have HO222 := n6_
        have HB := n7_
        clear n0_ n1_ n2_ n3_ n4_ n5_ n6_ n7_
        (try clear hb)
        (try clear hkp)
        (try clear ho0)
        obtain ⟨Ao45, co45, eo45⟩ := Kd.R_slice HO222.out
        (first | subst eo45 | (injection eo45 with f1_ f2_ f3_;have f4_ := f1_.symm;have f5_ := f3_.symm;clear f1_ f2_ f3_;subst f4_;subst f5_))
        refine hK.out _ _ ⟨(blk_cell BK211.out 0).trans rfl, (blk_cell BK211.out 1).trans rfl, HS2_⟩ (fun hHeld => ?_)
        clear hK K
        refine norm_ (a' := ?_) ?_ ?_
        rotate_left
        ·show Act.put _ (some 47) _ = _
         simp only [Act.put, List.setIfInBounds_toArray, List.set_cons_zero, List.set_cons_succ, i64_w, i32_w]
         rfl
        refine pure_ (i := 7) (N := some 48) (v := ?_) (a' := ?_) #[true,true,true,true,true,true,true,true,false] rfl rfl (any_of HT_.out (by kernel_rfl)) (fun _ _ _ h => h) (Or.inl ⟨by rfl, ?_⟩) ?_ ?_
        rotate_left
        ·intro w'
         go_simp
         with_reducible rfl
        rotate_left
        ·simp only [Act.put, List.setIfInBounds_toArray, List.set_cons_zero, List.set_cons_succ, i64_w, i32_w]
         rfl
        refine last_ (i := 8) (N := none) #[true,true,true,true,true,true,true,true,true] rfl rfl (one_of HT_.out (by kernel_rfl)) (by decide) (fun K hK => ?_)
        have hs46 : w44.cell? ⟨gb211, 0, none⟩ = some (.slice Ao43 x212000_2.length co43) := (blk_cell BK211.out 0).trans rfl
        have hfs46 := blk_frozen BK211.out 0
        have hns46_0 := NB202_211.out
        have hns46_1 := NB203_211.out
        have hns46_2 := NB204_211.out
        have hms46_0 := NB211_202.out
        have hms46_1 := NB211_203.out
        have hms46_2 := NB211_204.out
        refine skip_ (w1 := ?_) (by rfl) rfl ?_ ?_
        rotate_left
        ·go_simp
         rfl
        refine hK.out _ _ ?_
        clear hK K
        refine done_ (done_of HT_.out (by kernel_rfl)) ?_
        try go_wp2
        go_roundg k2
        case measure => have := HK1.out;have := HK2.out;omega
        case rel => exact ⟨(wrap64 (x10_2 + 1)), (t220), (.slice Ao45 t220.length co45), (by first | rfl | (simp;done) | (simp [*];done)), H', ⟨by have := HK1.out;have := HK2.out;omega⟩, ⟨by refine rP ?_;exact Kd.R_mono (Kd.R_far (p := ⟨gb211, 0, none⟩) (Kd.R_types HO_9.out BK211.out (by decide)) (fun _ hk => hk.2) (.slice Ao45 t220.length co45)) (fun _ hk => ⟨hk.1.2, hk.1.1⟩)⟩, ⟨by refine rP ?_;exact Kd.R_mono (Kd.R_far (p := ⟨gb211, 0, none⟩) (Kd.R_types HO222.out BK211.out (by decide)) (fun _ hk => hk.2) (.slice Ao45 t220.length co45)) (fun _ hk => ⟨hk.1.1, hk.1.2⟩)⟩, ⟨by refine rP ?_;exact Kd.R_mono (Kd.R_far (p := ⟨gb211, 0, none⟩) (Kd.R_types HO_212001.out BK211.out (by decide)) (fun _ hk => hk.2) (.slice Ao45 t220.length co45)) (fun _ hk => ⟨hk.1.1, hk.1.2⟩)⟩, ⟨by refine kP ?_;refine blk_far ?_ NB202_211.out _;exact kP BK202.out⟩, ⟨by refine kP ?_;refine blk_far ?_ NB203_211.out _;exact kP BK203.out⟩, ⟨by refine kP ?_;refine blk_far ?_ NB204_211.out _;exact kP BK204.out⟩, ⟨by refine kP ?_;refine blk_put (cs := #[.slice Ao43 x212000_2.length co43, .slice Ao36 x212001_1.length co36]) ?_ 0 _ rfl;exact kP BK211.out⟩, ⟨by exact bB⟩⟩
       ·rw [if_neg c39] at H
        exact absurd H (by simp)
      ·rw [if_neg c38] at H
       have c38b0 : decide (x10_2 < (t216.length : Int)) = false := decide_eq_false c38
       clear c38
       simp only [Option.some.injEq, Prod.mk.injEq] at H
       obtain ⟨rfl, rfl⟩ := H
       obtain ⟨Ao47, co47, eo47⟩ := Kd.R_slice HO_9.out
       subst eo47
       have hnb48 := NB211_202.out
       have hnc48 := NB202_211.out
       have hnb49 := NB211_203.out
       have hnc49 := NB203_211.out
       have hnb50 := NB211_204.out
       have hnc50 := NB204_211.out
       have hcz51_0 : wr.cell? ⟨gb211, 0, none⟩ = some (u212000) := (blk_cell BK211.out 0).trans rfl
       have hcz51_1 : wr.cell? ⟨gb211, 1, none⟩ = some (.slice Ao36 x212001_1.length co36) := (blk_cell BK211.out 1).trans rfl
       have hfz51_0 := blk_frozen BK211.out 0
       have hfz51_1 := blk_frozen BK211.out 1
       obtain ⟨Ao52, co52, eo52⟩ := Kd.R_slice HO_212000.out
       subst eo52
       have hnb53 := NB204_202.out
       have hnc53 := NB202_204.out
       have hnb54 := NB204_203.out
       have hnc54 := NB203_204.out
       have hcz55_0 : wr.cell? ⟨gb204, 0, none⟩ = some (.slice none 0 0) := (blk_cell BK204.out 0).trans rfl
       have hcz55_1 : wr.cell? ⟨gb204, 1, none⟩ = some (.slice none 0 0) := (blk_cell BK204.out 1).trans rfl
       have hfz55_0 := blk_frozen BK204.out 0
       have hfz55_1 := blk_frozen BK204.out 1
       go_wp2
       refine bodyPost_ret (results_cell_row rfl _ _ gb204 71 #[.slice Ao52 x212000_2.length co52, .slice Ao36 x212001_1.length co36] (0, 0) _ rfl (by refine kP ?_;refine blk_put (cs := #[.slice Ao52 x212000_2.length co52, .slice none 0 0]) ?_ 1 _ rfl;refine kP ?_;refine blk_put (cs := #[.slice none 0 0, .slice none 0 0]) ?_ 0 _ rfl;exact kP BK204.out) Try.underlying71 rfl (by kernel_rfl)) rfl ?_
       exact ⟨_, _, by first | rfl | (simp [errW_none, errW_some] <;> rfl) | (simp [*, errW_none, errW_some] <;> rfl), by refine rP ?_;exact Kd.R_mono (Kd.R_far (p := ⟨gb204, 1, none⟩) (Kd.R_far (p := ⟨gb204, 0, none⟩) (Kd.R_types HO_212000.out BK204.out (by decide)) (fun _ hk => hk.2) (.slice Ao52 x212000_2.length co52)) (fun _ hk => hk.2) (.slice Ao36 x212001_1.length co36)) (fun _ hk => hk.1.2), by refine rP ?_;exact Kd.R_mono (Kd.R_far (p := ⟨gb204, 1, none⟩) (Kd.R_far (p := ⟨gb204, 0, none⟩) (Kd.R_types HO_212001.out BK204.out (by decide)) (fun _ hk => hk.2) (.slice Ao52 x212000_2.length co52)) (fun _ hk => hk.2) (.slice Ao36 x212001_1.length co36)) (fun _ hk => hk.1.2), by exact bB⟩




end Go.Proofs.Ytmokkhfmbenleaa.QBurningSets
