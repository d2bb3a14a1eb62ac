import Derived.Test.YtaddgielnfhhpaaQBestFirePlan0
import Derived.Test.YtaddgielnfhhpaaQBestFirePlan5
import Derived.Test.YtaddgielnfhhpaaQBestFirePlan6
import Derived.Test.YtaddgielnfhhpaaQBestFirePlan8
namespace Go.Proofs.Ytaddgielnfhhpaa.QBestFirePlan
open Go.RowKit Go.Proofs.YtaddgielnfhhpaaW.PrintWords Go.Proofs.YtaddgielnfhhpaaW.PrintLast Go.Proofs.YtaddgielnfhhpaaW.PrintMore
attribute [local go_sem] max2_int min2_int max_two min_two max_three min_three max_four min_four   -- for this text's walks alone
set_option linter.unusedVariables false
set_option linter.unusedSimpArgs false
/-! ### spec_l8Round: function 85 -/
mutual
def spec_l8Round.l0 : Nat → List Int → Int → Int → List (S80) → List Int → List Int → Option (List Int × List Int)
 | 0, _, _, _, _, _, _ => none
 | k + 1, x2, x8, x209000, x209001, x218000, x218001 => if x8 < (x2.length : Int) then (if 0 ≤ x8 then ((spec_l1Put.f x218001 (rd x2 x8)).bind fun t219 => (spec_l8Round.l0 k x2 (wrap64 (x8 + 1)) x209000 x209001 x218000 t219)) else (none)) else ((spec_l8Next.f k x209000 x209001 x218000 x218001).bind fun t222 => (spec_l8Round.l1 k t222 0 x218000 x218001))
def spec_l8Round.l1 : Nat → List Int → Int → List Int → List Int → Option (List Int × List Int)
 | 0, _, _, _, _ => none
 | k + 1, x9, x10, x218000, x218001 => if x10 < (x9.length : Int) then (if 0 ≤ x10 then ((spec_l1Put.f x218000 (rd x9 x10)).bind fun t226 => (spec_l8Round.l1 k x9 (wrap64 (x10 + 1)) t226 x218001)) else (none)) else (some (x218000, x218001))
end
def spec_l8Round.f (k : Nat) (a0_0 : Int) (l0_1 : List (S80)) (l1_0 : List Int) (l1_1 : List Int) (l2 : List Int) : Option (List Int × List Int) := (spec_l1Own.f l1_0).bind fun t211 => ((spec_l1Own.f l1_1).bind fun t214 => (spec_l8Round.l0 k l2 0 a0_0 l0_1 t211 t214))
theorem spec_l8Round.mono_l : ∀ k, (∀ y0 y1 y2 y3 y4 y5, LeO (spec_l8Round.l0 k y0 y1 y2 y3 y4 y5) (spec_l8Round.l0 (k + 1) y0 y1 y2 y3 y4 y5)) ∧ (∀ y0 y1 y2 y3, LeO (spec_l8Round.l1 k y0 y1 y2 y3) (spec_l8Round.l1 (k + 1) y0 y1 y2 y3))
 | 0 => ⟨fun _ _ _ _ _ _ r h => by simp [spec_l8Round.l0] at h, fun _ _ _ _ r h => by simp [spec_l8Round.l1] at h⟩
 | k + 1 => by
  obtain ⟨ih0, ih1⟩ := spec_l8Round.mono_l k
  refine ⟨?_, ?_⟩
  ·intro y0 y1 y2 y3 y4 y5
   unfold spec_l8Round.l0
   repeat' first
   | (with_reducible exact ih0 _ _ _ _ _ _)
   | (with_reducible exact ih1 _ _ _ _)
   | (with_reducible exact spec_l8Next.mono _ _ _ _ _)
   | (with_reducible exact LeO.refl _)
   | (with_reducible exact LeO.none _)
   | (with_reducible refine LeO.ite ?_ ?_)
   | (with_reducible refine LeO.bind ?_ (fun _ => ?_))
   | exact ih0 _ _ _ _ _ _
   | exact ih1 _ _ _ _
   | exact spec_l8Next.mono _ _ _ _ _
   | exact LeO.none _
   | refine LeO.ite ?_ ?_
   | refine LeO.bind ?_ (fun _ => ?_)
  ·intro y0 y1 y2 y3
   unfold spec_l8Round.l1
   repeat' first
   | (with_reducible exact ih0 _ _ _ _ _ _)
   | (with_reducible exact ih1 _ _ _ _)
   | (with_reducible exact spec_l8Next.mono _ _ _ _ _)
   | (with_reducible exact LeO.refl _)
   | (with_reducible exact LeO.none _)
   | (with_reducible refine LeO.ite ?_ ?_)
   | (with_reducible refine LeO.bind ?_ (fun _ => ?_))
   | exact ih0 _ _ _ _ _ _
   | exact ih1 _ _ _ _
   | exact spec_l8Next.mono _ _ _ _ _
   | exact LeO.none _
   | refine LeO.ite ?_ ?_
   | refine LeO.bind ?_ (fun _ => ?_)
theorem spec_l8Round.mono : ∀ a0 a1 a2 a3 a4 k, LeO (spec_l8Round.f k a0 a1 a2 a3 a4) (spec_l8Round.f (k + 1) a0 a1 a2 a3 a4) := by
 intro a0 a1 a2 a3 a4 k
 obtain ⟨ih0, ih1⟩ := spec_l8Round.mono_l k
 unfold spec_l8Round.f
 repeat' first
   | (with_reducible exact ih0 _ _ _ _ _ _)
   | (with_reducible exact ih1 _ _ _ _)
   | (with_reducible exact spec_l8Next.mono _ _ _ _ _)
   | (with_reducible exact LeO.refl _)
   | (with_reducible exact LeO.none _)
   | (with_reducible refine LeO.ite ?_ ?_)
   | (with_reducible refine LeO.bind ?_ (fun _ => ?_))
   | exact ih0 _ _ _ _ _ _
   | exact ih1 _ _ _ _
   | exact spec_l8Next.mono _ _ _ _ _
   | exact LeO.none _
   | refine LeO.ite ?_ ?_
   | refine LeO.bind ?_ (fun _ => ?_)
def spec_l8Round.T1 : Bool × List (List Nat × List Nat) := (true, [([], []), ([0], [0]), ([1], [1]), ([], []), ([3], [3]), ([4, 2], [4]), ([2, 5], [2, 5]), ([], []), ([7, 6, 5, 0, 1, 2, 3, 4, 5, 6, 7], [6, 7])])
def spec_l8Round.B1 : List Nat := [0, 1, 3, 0, 8, 31, 63, 0, 255]
theorem spec_l8Round.tab1 : rtab .any (opsOf Try.f85 1) = spec_l8Round.T1 := by kernel_rfl
theorem spec_l8Round.bits1 : waitsOk spec_l8Round.T1.2 spec_l8Round.B1 = true := by kernel_rfl
def spec_l8Round.T5 : Bool × List (List Nat × List Nat) := (true, [([], []), ([0], [0]), ([], []), ([], []), ([2, 3], [2, 3]), ([4], [4]), ([1, 5], [1, 5]), ([0, 1, 2, 3, 4, 5, 6], []), ([7, 6, 6, 0, 1, 2, 3, 4, 5, 6], [6, 7])])
def spec_l8Round.B5 : List Nat := [0, 1, 0, 0, 12, 28, 63, 127, 255]
theorem spec_l8Round.tab5 : rtab .any (opsOf Try.f85 5) = spec_l8Round.T5 := by kernel_rfl
theorem spec_l8Round.bits5 : waitsOk spec_l8Round.T5.2 spec_l8Round.B5 = true := by kernel_rfl
def spec_l8Round.T10 : Bool × List (List Nat × List Nat) := (true, [([], []), ([0], [0]), ([], []), ([], []), ([2, 3], [2, 3]), ([4], [4]), ([1, 5], [1, 5]), ([0, 1, 2, 3, 4, 5, 6], []), ([7, 6, 6, 0, 1, 2, 3, 4, 5, 6], [6, 7])])
def spec_l8Round.B10 : List Nat := [0, 1, 0, 0, 12, 28, 63, 127, 255]
theorem spec_l8Round.tab10 : rtab .any (opsOf Try.f85 10) = spec_l8Round.T10 := by kernel_rfl
theorem spec_l8Round.bits10 : waitsOk spec_l8Round.T10.2 spec_l8Round.B10 = true := by kernel_rfl
set_option maxHeartbeats 8000000 in
set_option maxRecDepth 100000 in
theorem spec_l8Round.calls (k : Nat) (a0_0 : Int) (A0_1 : Option Addr) (c0_1 : Nat) (l0_1 : List (S80)) (A1_0 : Option Addr) (c1_0 : Nat) (l1_0 : List Int) (A1_1 : Option Addr) (c1_1 : Nat) (l1_1 : List Int) (A2 : Option Addr) (c2 : Nat) (l2 : List Int) (r1 : List Int) (r2 : List Int) (w : World) (hr0_1 : Kd.C k80 w A0_1 l0_1.length l0_1) (hc0_1 : l0_1.length ≤ c0_1) (hr1_0 : Kd.C (Kd.int .i64) w A1_0 l1_0.length l1_0) (hc1_0 : l1_0.length ≤ c1_0) (hr1_1 : Kd.C (Kd.int .i64) w A1_1 l1_1.length l1_1) (hc1_1 : l1_1.length ≤ c1_1) (hr2 : Kd.C (Kd.int .i64) w A2 l2.length l2) (hc2 : l2.length ≤ c2) (h : spec_l8Round.f k a0_0 l0_1 l1_0 l1_1 l2 = some (r1, r2)) :
  Calls Try.prog 85 #[.agg #[.int .i64 a0_0, .slice A0_1 l0_1.length c0_1], .agg #[.slice A1_0 l1_0.length c1_0, .slice A1_1 l1_1.length c1_1], .slice A2 l2.length c2] w fun e w' => ∃ v0_ v1_ : Value, e = .returned (.agg #[v0_, v1_]) ∧ Kd.R (Kd.int .i64) 3 w' w.heap.size (fun k_ => some k_ ≠ (v1_ : Value).ownBlock) v0_ r1 ∧ Kd.R (Kd.int .i64) 3 w' w.heap.size (fun k_ => some k_ ≠ (v0_ : Value).ownBlock) v1_ r2 ∧ Below w.heap.size w w' := by
 have hu29 := Try.underlying29
 have hu70 := Try.underlying70
 have HR0_1 := Aside0.mk hr0_1
 have HC0_1 := Aside0.mk hc0_1
 clear hr0_1 hc0_1
 have HR1_0 := Aside0.mk hr1_0
 have HC1_0 := Aside0.mk hc1_0
 clear hr1_0 hc1_0
 have HR1_1 := Aside0.mk hr1_1
 have HC1_1 := Aside0.mk hc1_1
 clear hr1_1 hc1_1
 have HR2 := Aside0.mk hr2
 have HC2 := Aside0.mk hc2
 clear hr2 hc2
 have HB := Aside0.mk (Below.refl w.heap.size w)
 have H : ((spec_l1Own.f l1_0).bind fun t211 => ((spec_l1Own.f l1_1).bind fun t214 => (spec_l8Round.l0 k l2 0 a0_0 l0_1 t211 t214))) = some (r1, r2) := h
 clear h
 replace H := Option.bind_eq_some_iff.mp H
 obtain ⟨t211, A40, H⟩ := H
 replace H : ((spec_l1Own.f l1_1).bind fun t214 => (spec_l8Round.l0 k l2 0 a0_0 l0_1 t211 t214)) = some (r1, r2) := H
 have A4 := Aside0.mk A40
 clear A40
 replace H := Option.bind_eq_some_iff.mp H
 obtain ⟨t214, A50, H⟩ := H
 replace H : (spec_l8Round.l0 k l2 0 a0_0 l0_1 t211 t214) = some (r1, r2) := H
 have A5 := Aside0.mk A50
 clear A50
 have H' := Aside0.mk H
 clear H
 go_enter Try.func85, Try.ntmps85
 try go_wp2_with (first | ((with_reducible refine gate_dst (N := 3) rfl ?_);refine box_event ?hg (N := 3) ?hd (cs := #[.int .i64 a0_0, .slice A0_1 l0_1.length c0_1]) (t := 29) ?hr ?_;(case hd => rfl);(case hg => rfl);(case hr => first | (go_simp;done) | (go_simp;rfl));intro gb208 hg w6 hbox hb;have n0_ := Aside0.mk (below_step (by exact bB) hb);have n1_ := Aside0.mk (hbox);have n2_ := Aside0.mk ((by rw [hg];exact (below_size (by exact bB)) : w.heap.size ≤ gb208));have n3_ := Aside0.mk ((by rw [hg];exact (below_size (by exact bB)) : w.heap.size ≤ gb208));clear HB;have HB := n0_;have BK208 := n1_;have GW208 := n2_;have GE208 := n3_;clear n0_ n1_ n2_ n3_;clear hb hbox hg) | ((with_reducible refine gate_dst (N := 4) rfl ?_);refine box_event ?hg (N := 4) ?hd (cs := #[.slice A1_0 l1_0.length c1_0, .slice A1_1 l1_1.length c1_1]) (t := 70) ?hr ?_;(case hd => rfl);(case hg => rfl);(case hr => first | (go_simp;done) | (go_simp;rfl));intro gb209 hg w7 hbox hb;have n0_ := Aside0.mk (blk_below (g := gb208) (o := .cells #[.int .i64 a0_0, .slice A0_1 l0_1.length c0_1] 29 (0, 0)) (by exact kP BK208.out) hb);have n1_ := Aside0.mk (below_step (by exact bB) hb);have n2_ := Aside0.mk (hbox);have n3_ := Aside0.mk ((by rw [hg];exact (below_size (by exact bB)) : w.heap.size ≤ gb209));have n4_ := Aside0.mk ((by rw [hg];exact (below_size (by exact bB)) : w.heap.size ≤ gb209));have n5_ := Aside0.mk ((by rw [hg];exact Nat.ne_of_lt (blk_lt (g := gb208) (o := .cells #[.int .i64 a0_0, .slice A0_1 l0_1.length c0_1] 29 (0, 0)) (by exact kP BK208.out)) : gb208 ≠ gb209));have n6_ := Aside0.mk ((by rw [hg];exact Nat.ne_of_gt (blk_lt (g := gb208) (o := .cells #[.int .i64 a0_0, .slice A0_1 l0_1.length c0_1] 29 (0, 0)) (by exact kP BK208.out)) : gb209 ≠ gb208));clear BK208;clear HB;have BK208 := n0_;have HB := n1_;have BK209 := n2_;have GW209 := n3_;have GE209 := n4_;have NB208_209 := n5_;have NB209_208 := n6_;clear n0_ n1_ n2_ n3_ n4_ n5_ n6_;clear hb hbox hg) | ((with_reducible refine gate_dst (N := 6) rfl ?_);refine box_event ?hg (N := 6) ?hd (cs := #[.slice none 0 0, .slice none 0 0]) (t := 70) ?hr ?_;(case hd => rfl);(case hg => rfl);(case hr => first | (go_simp;done) | (go_simp;rfl));intro gb210 hg w8 hbox hb;have n0_ := Aside0.mk (blk_below (g := gb208) (o := .cells #[.int .i64 a0_0, .slice A0_1 l0_1.length c0_1] 29 (0, 0)) (by exact kP BK208.out) hb);have n1_ := Aside0.mk (blk_below (g := gb209) (o := .cells #[.slice A1_0 l1_0.length c1_0, .slice A1_1 l1_1.length c1_1] 70 (0, 0)) (by exact kP BK209.out) hb);have n2_ := Aside0.mk (below_step (by exact bB) hb);have n3_ := Aside0.mk (hbox);have n4_ := Aside0.mk ((by rw [hg];exact (below_size (by exact bB)) : w.heap.size ≤ gb210));have n5_ := Aside0.mk ((by rw [hg];exact (below_size (by exact bB)) : w.heap.size ≤ gb210));have n6_ := Aside0.mk ((by rw [hg];exact Nat.ne_of_lt (blk_lt (g := gb208) (o := .cells #[.int .i64 a0_0, .slice A0_1 l0_1.length c0_1] 29 (0, 0)) (by exact kP BK208.out)) : gb208 ≠ gb210));have n7_ := Aside0.mk ((by rw [hg];exact Nat.ne_of_gt (blk_lt (g := gb208) (o := .cells #[.int .i64 a0_0, .slice A0_1 l0_1.length c0_1] 29 (0, 0)) (by exact kP BK208.out)) : gb210 ≠ gb208));have n8_ := Aside0.mk ((by rw [hg];exact Nat.ne_of_lt (blk_lt (g := gb209) (o := .cells #[.slice A1_0 l1_0.length c1_0, .slice A1_1 l1_1.length c1_1] 70 (0, 0)) (by exact kP BK209.out)) : gb209 ≠ gb210));have n9_ := Aside0.mk ((by rw [hg];exact Nat.ne_of_gt (blk_lt (g := gb209) (o := .cells #[.slice A1_0 l1_0.length c1_0, .slice A1_1 l1_1.length c1_1] 70 (0, 0)) (by exact kP BK209.out)) : gb210 ≠ gb209));clear BK208;clear BK209;clear HB;have BK208 := n0_;have BK209 := n1_;have HB := n2_;have BK210 := n3_;have GW210 := n4_;have GE210 := n5_;have NB208_210 := n6_;have NB210_208 := n7_;have NB209_210 := n8_;have NB210_209 := n9_;clear n0_ n1_ n2_ n3_ n4_ n5_ n6_ n7_ n8_ n9_;clear hb hbox hg))
 have n0_ := Aside0.mk (blk_drew BK208.out)
 have n1_ := Aside0.mk (blk_drew BK209.out)
 have n2_ := Aside0.mk (blk_drew BK210.out)
 have n3_ := Aside0.mk (below_drew1 HB.out)
 clear BK208
 clear BK209
 clear BK210
 clear HB
 have BK208 := n0_
 have BK209 := n1_
 have BK210 := n2_
 have HB := n3_
 clear n0_ n1_ n2_ n3_
 refine start_ (n := 9) (S := fun w' => w'.cell? ⟨gb209, 0, none⟩ = some (.slice A1_0 l1_0.length c1_0) ∧ w'.cell? ⟨gb209, 1, none⟩ = some (.slice A1_1 l1_1.length c1_1)) (ds := []) #[false,false,false,false,false,false,false,false,false] (by kernel_rfl) rfl rfl ⟨(blk_cell BK209.out 0).trans rfl, (blk_cell BK209.out 1).trans rfl⟩ (fun hHeld => ?_);refine with_tabW spec_l8Round.tab1 spec_l8Round.bits1 (fun HT_ HW_ => ?_)
 generalize w8.drew = w9 at BK208 BK209 BK210 HB hHeld ⊢
 refine pure_ (i := 0) (N := some 11) (v := ?_) (a' := ?_) #[true,false,false,false,false,false,false,false,false] rfl rfl (any_of HT_.out (by kernel_rfl)) (fun _ _ _ h => h) (Or.inl ⟨by rfl, ?_⟩) ?_ ?_
 rotate_left
 ·intro w'
  go_simp
  with_reducible rfl
 rotate_left
 ·simp only [Act.put, List.setIfInBounds_toArray, List.set_cons_zero, List.set_cons_succ, i64_w, i32_w]
  rfl
 refine pure_ (i := 3) (N := some 14) (v := ?_) (a' := ?_) #[true,false,false,true,false,false,false,false,false] rfl rfl (any_of HT_.out (by kernel_rfl)) (fun _ _ _ h => h) (Or.inl ⟨by rfl, ?_⟩) ?_ ?_
 rotate_left
 ·intro w'
  go_simp
  with_reducible rfl
 rotate_left
 ·simp only [Act.put, List.setIfInBounds_toArray, List.set_cons_zero, List.set_cons_succ, i64_w, i32_w]
  rfl
 refine take_ (i := 1) (N := some 12) (v := ?_) (a' := ?_) #[true,true,false,true,false,false,false,false,false] rfl rfl (take_ofW HT_.out HW_.out (by kernel_rfl)) (fun _ _ _ h => h) (Or.inl ⟨by rfl, ?_⟩) hHeld ?_ ?_
 rotate_left
 ·rintro w' ⟨s0, s1⟩
  go_simp
  with_reducible rfl
 rotate_left
 ·simp only [Act.put, List.setIfInBounds_toArray, List.set_cons_zero, List.set_cons_succ, i64_w, i32_w]
  rfl
 refine take_ (i := 4) (N := some 15) (v := ?_) (a' := ?_) #[true,true,false,true,true,false,false,false,false] rfl rfl (take_ofW HT_.out HW_.out (by kernel_rfl)) (fun _ _ _ h => h) (Or.inl ⟨by rfl, ?_⟩) hHeld ?_ ?_
 rotate_left
 ·rintro w' ⟨s0, s1⟩
  go_simp
  with_reducible rfl
 rotate_left
 ·simp only [Act.put, List.setIfInBounds_toArray, List.set_cons_zero, List.set_cons_succ, i64_w, i32_w]
  rfl
 refine join_ (σ := Value × Value × Nat) 1 #[true,true,true,true,true,true,true,true,false] (fun s_ => [(13, s_.1), (16, s_.2.1), (7, .pointer (some ⟨s_.2.2, 0, none⟩)), (17, .agg #[s_.1, s_.2.1])]) (fun s_ w' => (w'.cell? ⟨gb209, 0, none⟩ = some (.slice A1_0 l1_0.length c1_0) ∧ w'.cell? ⟨gb209, 1, none⟩ = some (.slice A1_1 l1_1.length c1_1)) ∧ (Kd.R (Kd.int .i64) 3 w' w.heap.size (fun k_ => some k_ ≠ (s_.2.1 : Value).ownBlock) s_.1 t211) ∧ (Kd.R (Kd.int .i64) 3 w' w.heap.size (fun k_ => some k_ ≠ (s_.1 : Value).ownBlock) s_.2.1 t214) ∧ (w'.heap[gb208]? = some (.cells #[.int .i64 a0_0, .slice A0_1 l0_1.length c0_1] 29 (0, 0))) ∧ (w'.heap[gb209]? = some (.cells #[.slice A1_0 l1_0.length c1_0, .slice A1_1 l1_1.length c1_1] 70 (0, 0))) ∧ (w'.heap[gb210]? = some (.cells #[.slice none 0 0, .slice none 0 0] 70 (0, 0))) ∧ (w'.heap[s_.2.2]? = some (.cells #[.slice none 0 0, .slice none 0 0] 70 (0, 0))) ∧ (w.heap.size ≤ s_.2.2) ∧ (w.heap.size ≤ s_.2.2) ∧ (gb208 ≠ s_.2.2) ∧ (s_.2.2 ≠ gb208) ∧ (gb209 ≠ s_.2.2) ∧ (s_.2.2 ≠ gb209) ∧ (gb210 ≠ s_.2.2) ∧ (s_.2.2 ≠ gb210) ∧ (Below w.heap.size w w')) ?_ ?_
 rotate_left
 ·intro hCont
  refine two_ (i := 2) (j := 7) (Ni := some 13) (Nj := some 7) #[true,true,true,true,true,false,false,false,false] #[true,true,false,true,true,false,false,true,false] rfl rfl rfl rfl (two_of HT_.out (by kernel_rfl)) (by decide) (by decide) (fun K hK => ?_) (fun K hK => ?_)
  ·skip
   refine goes_ Try.func104 (by kernel_rfl) rfl #[.slice A1_0 l1_0.length c1_0] (by rfl) rfl rfl mM ?_
   with_reducible refine (spec_l1Own.calls _ _ l1_0 t211 _ ?side1 ?side2 A4.out).mono ?_
   (case side1 => exact cP (Kd.C_below HR1_0.out HB.out))
   (case side2 => exact HC1_0.out)
   rintro e w10 ⟨v212, rfl, ho0, hb⟩
   refine ⟨_, rfl, ?_⟩
   have n0_ := Aside0.mk (Kd.R_lower ho0 (below_size (by exact bB)))
   have n1_ := Aside0.mk (blk_below (g := gb208) (o := .cells #[.int .i64 a0_0, .slice A0_1 l0_1.length c0_1] 29 (0, 0)) (by exact kP BK208.out) hb)
   have n2_ := Aside0.mk (blk_below (g := gb209) (o := .cells #[.slice A1_0 l1_0.length c1_0, .slice A1_1 l1_1.length c1_1] 70 (0, 0)) (by exact kP BK209.out) hb)
   have n3_ := Aside0.mk (blk_below (g := gb210) (o := .cells #[.slice none 0 0, .slice none 0 0] 70 (0, 0)) (by exact kP BK210.out) hb)
   have n4_ := Aside0.mk (below_step (by exact bB) hb)
   clear BK208
   clear BK209
   clear BK210
   clear HB
   have HO213 := n0_
   have BK208 := n1_
   have BK209 := n2_
   have BK210 := n3_
   have HB := n4_
   clear n0_ n1_ n2_ n3_ n4_
   (try clear hb)
   (try clear hb2)
   (try clear hk)
   (try clear hi)
   (try clear ho0)
   refine hK.out _ _ ⟨(blk_cell BK209.out 0).trans rfl, (blk_cell BK209.out 1).trans rfl⟩ (fun hHeld => ?_)
   clear hK K
   refine norm_ (a' := ?_) ?_ ?_
   rotate_left
   ·show Act.put _ (some 13) _ = _
    simp only [Act.put, List.setIfInBounds_toArray, List.set_cons_zero, List.set_cons_succ, i64_w, i32_w]
    rfl
   refine two_ (i := 5) (j := 7) (Ni := some 16) (Nj := some 7) #[true,true,true,true,true,true,false,false,false] #[true,true,true,true,true,false,false,true,false] rfl rfl rfl rfl (two_of HT_.out (by kernel_rfl)) (by decide) (by decide) (fun K hK => ?_) (fun K hK => ?_)
   ·skip
    refine goes_ Try.func104 (by kernel_rfl) rfl #[.slice A1_1 l1_1.length c1_1] (by rfl) rfl rfl mM ?_
    with_reducible refine (spec_l1Own.calls _ _ l1_1 t214 _ ?side1 ?side2 A5.out).mono ?_
    (case side1 => exact cP (Kd.C_below HR1_1.out HB.out))
    (case side2 => exact HC1_1.out)
    rintro e w11 ⟨v215, rfl, ho0, hb⟩
    refine ⟨_, rfl, ?_⟩
    have n0_ := Aside0.mk (Kd.R_elder' (by exact rP HO213.out) (Kd.R_base ho0) hb)
    have n1_ := Aside0.mk (Kd.R_lower (Kd.R_new' ho0 (Kd.R_lt (by exact rP HO213.out))) (below_size (by exact bB)))
    have n2_ := Aside0.mk (blk_below (g := gb208) (o := .cells #[.int .i64 a0_0, .slice A0_1 l0_1.length c0_1] 29 (0, 0)) (by exact kP BK208.out) hb)
    have n3_ := Aside0.mk (blk_below (g := gb209) (o := .cells #[.slice A1_0 l1_0.length c1_0, .slice A1_1 l1_1.length c1_1] 70 (0, 0)) (by exact kP BK209.out) hb)
    have n4_ := Aside0.mk (blk_below (g := gb210) (o := .cells #[.slice none 0 0, .slice none 0 0] 70 (0, 0)) (by exact kP BK210.out) hb)
    have n5_ := Aside0.mk (below_step (by exact bB) hb)
    clear HO213
    clear BK208
    clear BK209
    clear BK210
    clear HB
    have HO213 := n0_
    have HO216 := n1_
    have BK208 := n2_
    have BK209 := n3_
    have BK210 := n4_
    have HB := n5_
    clear n0_ n1_ n2_ n3_ n4_ n5_
    (try clear hb)
    (try clear hb2)
    (try clear hk)
    (try clear hi)
    (try clear ho0)
    obtain ⟨Ao12, co12, eo12⟩ := Kd.R_slice HO216.out
    (first | subst eo12 | (injection eo12 with f1_ f2_ f3_;have f4_ := f1_.symm;have f5_ := f3_.symm;clear f1_ f2_ f3_;subst f4_;subst f5_))
    obtain ⟨Ao13, co13, eo13⟩ := Kd.R_slice HO213.out
    (first | subst eo13 | (injection eo13 with f1_ f2_ f3_;have f4_ := f1_.symm;have f5_ := f3_.symm;clear f1_ f2_ f3_;subst f4_;subst f5_))
    refine hK.out _ _ ⟨(blk_cell BK209.out 0).trans rfl, (blk_cell BK209.out 1).trans rfl⟩ (fun hHeld => ?_)
    clear hK K
    refine norm_ (a' := ?_) ?_ ?_
    rotate_left
    ·show Act.put _ (some 16) _ = _
     simp only [Act.put, List.setIfInBounds_toArray, List.set_cons_zero, List.set_cons_succ, i64_w, i32_w]
     rfl
    refine pure_ (i := 6) (N := some 17) (v := ?_) (a' := ?_) #[true,true,true,true,true,true,true,false,false] rfl rfl (any_of HT_.out (by kernel_rfl)) (fun _ _ _ h => h) (Or.inl ⟨by rfl, ?_⟩) ?_ ?_
    rotate_left
    ·intro w'
     go_simp
     with_reducible rfl
    rotate_left
    ·simp only [Act.put, List.setIfInBounds_toArray, List.set_cons_zero, List.set_cons_succ, i64_w, i32_w]
     rfl
    refine one_ (i := 7) (N := some 7) #[true,true,true,true,true,true,true,true,false] rfl rfl (one_of HT_.out (by kernel_rfl)) (by decide) (fun K hK => ?_)
    refine box_step ?hg (N := 7) ?hd (cs := #[.slice none 0 0, .slice none 0 0]) (t := 70) ?hr ?_;(case hd => rfl);(case hg => rfl);(case hr => first | (go_simp;done) | (go_simp;rfl))
    intro gb217 hg w14 hbox hb
    have n0_ := Aside0.mk (Kd.R_below (by exact rP HO213.out) hb)
    have n1_ := Aside0.mk (Kd.R_below (by exact rP HO216.out) hb)
    have n2_ := Aside0.mk (blk_below (g := gb208) (o := .cells #[.int .i64 a0_0, .slice A0_1 l0_1.length c0_1] 29 (0, 0)) (by exact kP BK208.out) hb)
    have n3_ := Aside0.mk (blk_below (g := gb209) (o := .cells #[.slice A1_0 l1_0.length c1_0, .slice A1_1 l1_1.length c1_1] 70 (0, 0)) (by exact kP BK209.out) hb)
    have n4_ := Aside0.mk (blk_below (g := gb210) (o := .cells #[.slice none 0 0, .slice none 0 0] 70 (0, 0)) (by exact kP BK210.out) hb)
    have n5_ := Aside0.mk (below_step (by exact bB) hb)
    have n6_ := Aside0.mk (hbox)
    have n7_ := Aside0.mk ((by rw [hg];exact (below_size (by exact bB)) : w.heap.size ≤ gb217))
    have n8_ := Aside0.mk ((by rw [hg];exact (below_size (by exact bB)) : w.heap.size ≤ gb217))
    have n9_ := Aside0.mk ((by rw [hg];exact Nat.ne_of_lt (blk_lt (g := gb208) (o := .cells #[.int .i64 a0_0, .slice A0_1 l0_1.length c0_1] 29 (0, 0)) (by exact kP BK208.out)) : gb208 ≠ gb217))
    have n10_ := Aside0.mk ((by rw [hg];exact Nat.ne_of_gt (blk_lt (g := gb208) (o := .cells #[.int .i64 a0_0, .slice A0_1 l0_1.length c0_1] 29 (0, 0)) (by exact kP BK208.out)) : gb217 ≠ gb208))
    have n11_ := Aside0.mk ((by rw [hg];exact Nat.ne_of_lt (blk_lt (g := gb209) (o := .cells #[.slice A1_0 l1_0.length c1_0, .slice A1_1 l1_1.length c1_1] 70 (0, 0)) (by exact kP BK209.out)) : gb209 ≠ gb217))
    have n12_ := Aside0.mk ((by rw [hg];exact Nat.ne_of_gt (blk_lt (g := gb209) (o := .cells #[.slice A1_0 l1_0.length c1_0, .slice A1_1 l1_1.length c1_1] 70 (0, 0)) (by exact kP BK209.out)) : gb217 ≠ gb209))
    have n13_ := Aside0.mk ((by rw [hg];exact Nat.ne_of_lt (blk_lt (g := gb210) (o := .cells #[.slice none 0 0, .slice none 0 0] 70 (0, 0)) (by exact kP BK210.out)) : gb210 ≠ gb217))
    have n14_ := Aside0.mk ((by rw [hg];exact Nat.ne_of_gt (blk_lt (g := gb210) (o := .cells #[.slice none 0 0, .slice none 0 0] 70 (0, 0)) (by exact kP BK210.out)) : gb217 ≠ gb210))
    clear HO213
    clear HO216
    clear BK208
    clear BK209
    clear BK210
    clear HB
    have HO213 := n0_
    have HO216 := n1_
    have BK208 := n2_
    have BK209 := n3_
    have BK210 := n4_
    have HB := n5_
    have BK217 := n6_
    have GW217 := n7_
    have GE217 := n8_
    have NB208_217 := n9_
    have NB217_208 := n10_
    have NB209_217 := n11_
    have NB217_209 := n12_
    have NB210_217 := n13_
    have NB217_210 := n14_
    clear n0_ n1_ n2_ n3_ n4_ n5_ n6_ n7_ n8_ n9_ n10_ n11_ n12_ n13_ n14_
    clear hb hbox hg
    refine hK.out _ _ ⟨(blk_cell BK209.out 0).trans rfl, (blk_cell BK209.out 1).trans rfl⟩ (fun hHeld => ?_)
    clear hK K
    refine norm_ (a' := ?_) ?_ ?_
    rotate_left
    ·show Act.put _ (some 7) _ = _
     simp only [Act.put, List.setIfInBounds_toArray, List.set_cons_zero, List.set_cons_succ, i64_w, i32_w]
     rfl
    exact norm_ (by simp only [putAll, Act.put, List.setIfInBounds_toArray, List.set_cons_zero, List.set_cons_succ]) (hCont (.slice Ao13 t211.length co13, .slice Ao12 t214.length co12, gb217) _ ⟨hHeld, (by refine rP ?_;exact Kd.R_mono HO213.out (fun _ hk => hk.2)), (by refine rP ?_;exact Kd.R_mono HO216.out (fun _ hk => hk.2)), (by exact kP BK208.out), (by exact kP BK209.out), (by exact kP BK210.out), (by exact kP BK217.out), GW217.out, GE217.out, NB208_217.out, NB217_208.out, NB209_217.out, NB217_209.out, NB210_217.out, NB217_210.out, (by exact bB)⟩)
   ·skip
    refine box_step ?hg (N := 7) ?hd (cs := #[.slice none 0 0, .slice none 0 0]) (t := 70) ?hr ?_;(case hd => rfl);(case hg => rfl);(case hr => first | (go_simp;done) | (go_simp;rfl))
    intro gb217 hg w11 hbox hb
    have n0_ := Aside0.mk (Kd.R_below (by exact rP HO213.out) hb)
    have n1_ := Aside0.mk (blk_below (g := gb208) (o := .cells #[.int .i64 a0_0, .slice A0_1 l0_1.length c0_1] 29 (0, 0)) (by exact kP BK208.out) hb)
    have n2_ := Aside0.mk (blk_below (g := gb209) (o := .cells #[.slice A1_0 l1_0.length c1_0, .slice A1_1 l1_1.length c1_1] 70 (0, 0)) (by exact kP BK209.out) hb)
    have n3_ := Aside0.mk (blk_below (g := gb210) (o := .cells #[.slice none 0 0, .slice none 0 0] 70 (0, 0)) (by exact kP BK210.out) hb)
    have n4_ := Aside0.mk (below_step (by exact bB) hb)
    have n5_ := Aside0.mk (hbox)
    have n6_ := Aside0.mk ((by rw [hg];exact (below_size (by exact bB)) : w.heap.size ≤ gb217))
    have n7_ := Aside0.mk ((by rw [hg];exact (below_size (by exact bB)) : w.heap.size ≤ gb217))
    have n8_ := Aside0.mk ((by rw [hg];exact Nat.ne_of_lt (blk_lt (g := gb208) (o := .cells #[.int .i64 a0_0, .slice A0_1 l0_1.length c0_1] 29 (0, 0)) (by exact kP BK208.out)) : gb208 ≠ gb217))
    have n9_ := Aside0.mk ((by rw [hg];exact Nat.ne_of_gt (blk_lt (g := gb208) (o := .cells #[.int .i64 a0_0, .slice A0_1 l0_1.length c0_1] 29 (0, 0)) (by exact kP BK208.out)) : gb217 ≠ gb208))
    have n10_ := Aside0.mk ((by rw [hg];exact Nat.ne_of_lt (blk_lt (g := gb209) (o := .cells #[.slice A1_0 l1_0.length c1_0, .slice A1_1 l1_1.length c1_1] 70 (0, 0)) (by exact kP BK209.out)) : gb209 ≠ gb217))
    have n11_ := Aside0.mk ((by rw [hg];exact Nat.ne_of_gt (blk_lt (g := gb209) (o := .cells #[.slice A1_0 l1_0.length c1_0, .slice A1_1 l1_1.length c1_1] 70 (0, 0)) (by exact kP BK209.out)) : gb217 ≠ gb209))
    have n12_ := Aside0.mk ((by rw [hg];exact Nat.ne_of_lt (blk_lt (g := gb210) (o := .cells #[.slice none 0 0, .slice none 0 0] 70 (0, 0)) (by exact kP BK210.out)) : gb210 ≠ gb217))
    have n13_ := Aside0.mk ((by rw [hg];exact Nat.ne_of_gt (blk_lt (g := gb210) (o := .cells #[.slice none 0 0, .slice none 0 0] 70 (0, 0)) (by exact kP BK210.out)) : gb217 ≠ gb210))
    clear HO213
    clear BK208
    clear BK209
    clear BK210
    clear HB
    have HO213 := n0_
    have BK208 := n1_
    have BK209 := n2_
    have BK210 := n3_
    have HB := n4_
    have BK217 := n5_
    have GW217 := n6_
    have GE217 := n7_
    have NB208_217 := n8_
    have NB217_208 := n9_
    have NB209_217 := n10_
    have NB217_209 := n11_
    have NB210_217 := n12_
    have NB217_210 := n13_
    clear n0_ n1_ n2_ n3_ n4_ n5_ n6_ n7_ n8_ n9_ n10_ n11_ n12_ n13_
    clear hb hbox hg
    refine hK.out _ _ ⟨(blk_cell BK209.out 0).trans rfl, (blk_cell BK209.out 1).trans rfl⟩ (fun hHeld => ?_)
    clear hK K
    refine norm_ (a' := ?_) ?_ ?_
    rotate_left
    ·show Act.put _ (some 7) _ = _
     simp only [Act.put, List.setIfInBounds_toArray, List.set_cons_zero, List.set_cons_succ, i64_w, i32_w]
     rfl
    refine one_ (i := 5) (N := some 16) #[true,true,true,true,true,true,false,true,false] rfl rfl (one_of HT_.out (by kernel_rfl)) (by decide) (fun K hK => ?_)
    refine goes_ Try.func104 (by kernel_rfl) rfl #[.slice A1_1 l1_1.length c1_1] (by rfl) rfl rfl mM ?_
    with_reducible refine (spec_l1Own.calls _ _ l1_1 t214 _ ?side1 ?side2 A5.out).mono ?_
    (case side1 => exact cP (Kd.C_below HR1_1.out HB.out))
    (case side2 => exact HC1_1.out)
    rintro e w12 ⟨v215, rfl, ho0, hb⟩
    refine ⟨_, rfl, ?_⟩
    have n0_ := Aside0.mk (Kd.R_elder' (by exact rP HO213.out) (Kd.R_base ho0) hb)
    have n1_ := Aside0.mk (Kd.R_lower (Kd.R_new' ho0 (Kd.R_lt (by exact rP HO213.out))) (below_size (by exact bB)))
    have n2_ := Aside0.mk (blk_below (g := gb208) (o := .cells #[.int .i64 a0_0, .slice A0_1 l0_1.length c0_1] 29 (0, 0)) (by exact kP BK208.out) hb)
    have n3_ := Aside0.mk (blk_below (g := gb209) (o := .cells #[.slice A1_0 l1_0.length c1_0, .slice A1_1 l1_1.length c1_1] 70 (0, 0)) (by exact kP BK209.out) hb)
    have n4_ := Aside0.mk (blk_below (g := gb210) (o := .cells #[.slice none 0 0, .slice none 0 0] 70 (0, 0)) (by exact kP BK210.out) hb)
    have n5_ := Aside0.mk (blk_below (g := gb217) (o := .cells #[.slice none 0 0, .slice none 0 0] 70 (0, 0)) (by exact kP BK217.out) hb)
    have n6_ := Aside0.mk (below_step (by exact bB) hb)
    clear HO213
    clear BK208
    clear BK209
    clear BK210
    clear BK217
    clear HB
    have HO213 := n0_
    have HO216 := n1_
    have BK208 := n2_
    have BK209 := n3_
    have BK210 := n4_
    have BK217 := n5_
    have HB := n6_
    clear n0_ n1_ n2_ n3_ n4_ n5_ n6_
    (try clear hb)
    (try clear hb2)
    (try clear hk)
    (try clear hi)
    (try clear ho0)
    obtain ⟨Ao13, co13, eo13⟩ := Kd.R_slice HO216.out
    (first | subst eo13 | (injection eo13 with f1_ f2_ f3_;have f4_ := f1_.symm;have f5_ := f3_.symm;clear f1_ f2_ f3_;subst f4_;subst f5_))
    obtain ⟨Ao14, co14, eo14⟩ := Kd.R_slice HO213.out
    (first | subst eo14 | (injection eo14 with f1_ f2_ f3_;have f4_ := f1_.symm;have f5_ := f3_.symm;clear f1_ f2_ f3_;subst f4_;subst f5_))
    refine hK.out _ _ ⟨(blk_cell BK209.out 0).trans rfl, (blk_cell BK209.out 1).trans rfl⟩ (fun hHeld => ?_)
    clear hK K
    refine norm_ (a' := ?_) ?_ ?_
    rotate_left
    ·show Act.put _ (some 16) _ = _
     simp only [Act.put, List.setIfInBounds_toArray, List.set_cons_zero, List.set_cons_succ, i64_w, i32_w]
     rfl
    refine pure_ (i := 6) (N := some 17) (v := ?_) (a' := ?_) #[true,true,true,true,true,true,true,true,false] rfl rfl (any_of HT_.out (by kernel_rfl)) (fun _ _ _ h => h) (Or.inl ⟨by rfl, ?_⟩) ?_ ?_
    rotate_left
    ·intro w'
     go_simp
     with_reducible rfl
    rotate_left
    ·simp only [Act.put, List.setIfInBounds_toArray, List.set_cons_zero, List.set_cons_succ, i64_w, i32_w]
     rfl
    exact norm_ (by simp only [putAll, Act.put, List.setIfInBounds_toArray, List.set_cons_zero, List.set_cons_succ]) (hCont (.slice Ao14 t211.length co14, .slice Ao13 t214.length co13, gb217) _ ⟨hHeld, (by refine rP ?_;exact Kd.R_mono HO213.out (fun _ hk => hk.2)), (by refine rP ?_;exact Kd.R_mono HO216.out (fun _ hk => hk.2)), (by exact kP BK208.out), (by exact kP BK209.out), (by exact kP BK210.out), (by exact kP BK217.out), GW217.out, GE217.out, NB208_217.out, NB217_208.out, NB209_217.out, NB217_209.out, NB210_217.out, NB217_210.out, (by exact bB)⟩)
  ·skip
   refine box_step ?hg (N := 7) ?hd (cs := #[.slice none 0 0, .slice none 0 0]) (t := 70) ?hr ?_;(case hd => rfl);(case hg => rfl);(case hr => first | (go_simp;done) | (go_simp;rfl))
   intro gb217 hg w10 hbox hb
   have n0_ := Aside0.mk (blk_below (g := gb208) (o := .cells #[.int .i64 a0_0, .slice A0_1 l0_1.length c0_1] 29 (0, 0)) (by exact kP BK208.out) hb)
   have n1_ := Aside0.mk (blk_below (g := gb209) (o := .cells #[.slice A1_0 l1_0.length c1_0, .slice A1_1 l1_1.length c1_1] 70 (0, 0)) (by exact kP BK209.out) hb)
   have n2_ := Aside0.mk (blk_below (g := gb210) (o := .cells #[.slice none 0 0, .slice none 0 0] 70 (0, 0)) (by exact kP BK210.out) hb)
   have n3_ := Aside0.mk (below_step (by exact bB) hb)
   have n4_ := Aside0.mk (hbox)
   have n5_ := Aside0.mk ((by rw [hg];exact (below_size (by exact bB)) : w.heap.size ≤ gb217))
   have n6_ := Aside0.mk ((by rw [hg];exact (below_size (by exact bB)) : w.heap.size ≤ gb217))
   have n7_ := Aside0.mk ((by rw [hg];exact Nat.ne_of_lt (blk_lt (g := gb208) (o := .cells #[.int .i64 a0_0, .slice A0_1 l0_1.length c0_1] 29 (0, 0)) (by exact kP BK208.out)) : gb208 ≠ gb217))
   have n8_ := Aside0.mk ((by rw [hg];exact Nat.ne_of_gt (blk_lt (g := gb208) (o := .cells #[.int .i64 a0_0, .slice A0_1 l0_1.length c0_1] 29 (0, 0)) (by exact kP BK208.out)) : gb217 ≠ gb208))
   have n9_ := Aside0.mk ((by rw [hg];exact Nat.ne_of_lt (blk_lt (g := gb209) (o := .cells #[.slice A1_0 l1_0.length c1_0, .slice A1_1 l1_1.length c1_1] 70 (0, 0)) (by exact kP BK209.out)) : gb209 ≠ gb217))
   have n10_ := Aside0.mk ((by rw [hg];exact Nat.ne_of_gt (blk_lt (g := gb209) (o := .cells #[.slice A1_0 l1_0.length c1_0, .slice A1_1 l1_1.length c1_1] 70 (0, 0)) (by exact kP BK209.out)) : gb217 ≠ gb209))
   have n11_ := Aside0.mk ((by rw [hg];exact Nat.ne_of_lt (blk_lt (g := gb210) (o := .cells #[.slice none 0 0, .slice none 0 0] 70 (0, 0)) (by exact kP BK210.out)) : gb210 ≠ gb217))
   have n12_ := Aside0.mk ((by rw [hg];exact Nat.ne_of_gt (blk_lt (g := gb210) (o := .cells #[.slice none 0 0, .slice none 0 0] 70 (0, 0)) (by exact kP BK210.out)) : gb217 ≠ gb210))
   clear BK208
   clear BK209
   clear BK210
   clear HB
   have BK208 := n0_
   have BK209 := n1_
   have BK210 := n2_
   have HB := n3_
   have BK217 := n4_
   have GW217 := n5_
   have GE217 := n6_
   have NB208_217 := n7_
   have NB217_208 := n8_
   have NB209_217 := n9_
   have NB217_209 := n10_
   have NB210_217 := n11_
   have NB217_210 := n12_
   clear n0_ n1_ n2_ n3_ n4_ n5_ n6_ n7_ n8_ n9_ n10_ n11_ n12_
   clear hb hbox hg
   refine hK.out _ _ ⟨(blk_cell BK209.out 0).trans rfl, (blk_cell BK209.out 1).trans rfl⟩ (fun hHeld => ?_)
   clear hK K
   refine norm_ (a' := ?_) ?_ ?_
   rotate_left
   ·show Act.put _ (some 7) _ = _
    simp only [Act.put, List.setIfInBounds_toArray, List.set_cons_zero, List.set_cons_succ, i64_w, i32_w]
    rfl
   refine one_ (i := 2) (N := some 13) #[true,true,true,true,true,false,false,true,false] rfl rfl (one_of HT_.out (by kernel_rfl)) (by decide) (fun K hK => ?_)
   refine goes_ Try.func104 (by kernel_rfl) rfl #[.slice A1_0 l1_0.length c1_0] (by rfl) rfl rfl mM ?_
   with_reducible refine (spec_l1Own.calls _ _ l1_0 t211 _ ?side1 ?side2 A4.out).mono ?_
   (case side1 => exact cP (Kd.C_below HR1_0.out HB.out))
   (case side2 => exact HC1_0.out)
   rintro e w11 ⟨v212, rfl, ho0, hb⟩
   refine ⟨_, rfl, ?_⟩
   have n0_ := Aside0.mk (Kd.R_lower ho0 (below_size (by exact bB)))
   have n1_ := Aside0.mk (blk_below (g := gb208) (o := .cells #[.int .i64 a0_0, .slice A0_1 l0_1.length c0_1] 29 (0, 0)) (by exact kP BK208.out) hb)
   have n2_ := Aside0.mk (blk_below (g := gb209) (o := .cells #[.slice A1_0 l1_0.length c1_0, .slice A1_1 l1_1.length c1_1] 70 (0, 0)) (by exact kP BK209.out) hb)
   have n3_ := Aside0.mk (blk_below (g := gb210) (o := .cells #[.slice none 0 0, .slice none 0 0] 70 (0, 0)) (by exact kP BK210.out) hb)
   have n4_ := Aside0.mk (blk_below (g := gb217) (o := .cells #[.slice none 0 0, .slice none 0 0] 70 (0, 0)) (by exact kP BK217.out) hb)
   have n5_ := Aside0.mk (below_step (by exact bB) hb)
   clear BK208
   clear BK209
   clear BK210
   clear BK217
   clear HB
   have HO213 := n0_
   have BK208 := n1_
   have BK209 := n2_
   have BK210 := n3_
   have BK217 := n4_
   have HB := n5_
   clear n0_ n1_ n2_ n3_ n4_ n5_
   (try clear hb)
   (try clear hb2)
   (try clear hk)
   (try clear hi)
   (try clear ho0)
   refine hK.out _ _ ⟨(blk_cell BK209.out 0).trans rfl, (blk_cell BK209.out 1).trans rfl⟩ (fun hHeld => ?_)
   clear hK K
   refine norm_ (a' := ?_) ?_ ?_
   rotate_left
   ·show Act.put _ (some 13) _ = _
    simp only [Act.put, List.setIfInBounds_toArray, List.set_cons_zero, List.set_cons_succ, i64_w, i32_w]
    rfl
   refine one_ (i := 5) (N := some 16) #[true,true,true,true,true,true,false,true,false] rfl rfl (one_of HT_.out (by kernel_rfl)) (by decide) (fun K hK => ?_)
   refine goes_ Try.func104 (by kernel_rfl) rfl #[.slice A1_1 l1_1.length c1_1] (by rfl) rfl rfl mM ?_
   with_reducible refine (spec_l1Own.calls _ _ l1_1 t214 _ ?side1 ?side2 A5.out).mono ?_
   (case side1 => exact cP (Kd.C_below HR1_1.out HB.out))
   (case side2 => exact HC1_1.out)
   rintro e w12 ⟨v215, rfl, ho0, hb⟩
   refine ⟨_, rfl, ?_⟩
   have n0_ := Aside0.mk (Kd.R_elder' (by exact rP HO213.out) (Kd.R_base ho0) hb)
   have n1_ := Aside0.mk (Kd.R_lower (Kd.R_new' ho0 (Kd.R_lt (by exact rP HO213.out))) (below_size (by exact bB)))
   have n2_ := Aside0.mk (blk_below (g := gb208) (o := .cells #[.int .i64 a0_0, .slice A0_1 l0_1.length c0_1] 29 (0, 0)) (by exact kP BK208.out) hb)
   have n3_ := Aside0.mk (blk_below (g := gb209) (o := .cells #[.slice A1_0 l1_0.length c1_0, .slice A1_1 l1_1.length c1_1] 70 (0, 0)) (by exact kP BK209.out) hb)
   have n4_ := Aside0.mk (blk_below (g := gb210) (o := .cells #[.slice none 0 0, .slice none 0 0] 70 (0, 0)) (by exact kP BK210.out) hb)
   have n5_ := Aside0.mk (blk_below (g := gb217) (o := .cells #[.slice none 0 0, .slice none 0 0] 70 (0, 0)) (by exact kP BK217.out) hb)
   have n6_ := Aside0.mk (below_step (by exact bB) hb)
   clear HO213
   clear BK208
   clear BK209
   clear BK210
   clear BK217
   clear HB
   have HO213 := n0_
   have HO216 := n1_
   have BK208 := n2_
   have BK209 := n3_
   have BK210 := n4_
   have BK217 := n5_
   have HB := n6_
   clear n0_ n1_ n2_ n3_ n4_ n5_ n6_
   (try clear hb)
   (try clear hb2)
   (try clear hk)
   (try clear hi)
   (try clear ho0)
   obtain ⟨Ao13, co13, eo13⟩ := Kd.R_slice HO216.out
   (first | subst eo13 | (injection eo13 with f1_ f2_ f3_;have f4_ := f1_.symm;have f5_ := f3_.symm;clear f1_ f2_ f3_;subst f4_;subst f5_))
   obtain ⟨Ao14, co14, eo14⟩ := Kd.R_slice HO213.out
   (first | subst eo14 | (injection eo14 with f1_ f2_ f3_;have f4_ := f1_.symm;have f5_ := f3_.symm;clear f1_ f2_ f3_;subst f4_;subst f5_))
   refine hK.out _ _ ⟨(blk_cell BK209.out 0).trans rfl, (blk_cell BK209.out 1).trans rfl⟩ (fun hHeld => ?_)
   clear hK K
   refine norm_ (a' := ?_) ?_ ?_
   rotate_left
   ·show Act.put _ (some 16) _ = _
    simp only [Act.put, List.setIfInBounds_toArray, List.set_cons_zero, List.set_cons_succ, i64_w, i32_w]
    rfl
   refine pure_ (i := 6) (N := some 17) (v := ?_) (a' := ?_) #[true,true,true,true,true,true,true,true,false] rfl rfl (any_of HT_.out (by kernel_rfl)) (fun _ _ _ h => h) (Or.inl ⟨by rfl, ?_⟩) ?_ ?_
   rotate_left
   ·intro w'
    go_simp
    with_reducible rfl
   rotate_left
   ·simp only [Act.put, List.setIfInBounds_toArray, List.set_cons_zero, List.set_cons_succ, i64_w, i32_w]
    rfl
   exact norm_ (by simp only [putAll, Act.put, List.setIfInBounds_toArray, List.set_cons_zero, List.set_cons_succ]) (hCont (.slice Ao14 t211.length co14, .slice Ao13 t214.length co13, gb217) _ ⟨hHeld, (by refine rP ?_;exact Kd.R_mono HO213.out (fun _ hk => hk.2)), (by refine rP ?_;exact Kd.R_mono HO216.out (fun _ hk => hk.2)), (by exact kP BK208.out), (by exact kP BK209.out), (by exact kP BK210.out), (by exact kP BK217.out), GW217.out, GE217.out, NB208_217.out, NB217_208.out, NB209_217.out, NB217_209.out, NB210_217.out, NB217_210.out, (by exact bB)⟩)
 rintro ⟨v212, v215, gb217⟩ w15 ⟨hS_, h0_, h1_, h2_, h3_, h4_, h5_, h6_, h7_, h8_, h9_, h10_, h11_, h12_, h13_, h14_⟩
 have n0_ : Aside0 (Kd.R (Kd.int .i64) 3 w15 w.heap.size (fun k_ => some k_ ≠ (v215 : Value).ownBlock) v212 t211) := ⟨h0_⟩
 have n1_ : Aside0 (Kd.R (Kd.int .i64) 3 w15 w.heap.size (fun k_ => some k_ ≠ (v212 : Value).ownBlock) v215 t214) := ⟨h1_⟩
 have n2_ : Aside0 (w15.heap[gb208]? = some (.cells #[.int .i64 a0_0, .slice A0_1 l0_1.length c0_1] 29 (0, 0))) := ⟨h2_⟩
 have n3_ : Aside0 (w15.heap[gb209]? = some (.cells #[.slice A1_0 l1_0.length c1_0, .slice A1_1 l1_1.length c1_1] 70 (0, 0))) := ⟨h3_⟩
 have n4_ : Aside0 (w15.heap[gb210]? = some (.cells #[.slice none 0 0, .slice none 0 0] 70 (0, 0))) := ⟨h4_⟩
 have n5_ : Aside0 (w15.heap[gb217]? = some (.cells #[.slice none 0 0, .slice none 0 0] 70 (0, 0))) := ⟨h5_⟩
 have n6_ : Aside0 (w.heap.size ≤ gb217) := ⟨h6_⟩
 have n7_ : Aside0 (w.heap.size ≤ gb217) := ⟨h7_⟩
 have n8_ : Aside0 (gb208 ≠ gb217) := ⟨h8_⟩
 have n9_ : Aside0 (gb217 ≠ gb208) := ⟨h9_⟩
 have n10_ : Aside0 (gb209 ≠ gb217) := ⟨h10_⟩
 have n11_ : Aside0 (gb217 ≠ gb209) := ⟨h11_⟩
 have n12_ : Aside0 (gb210 ≠ gb217) := ⟨h12_⟩
 have n13_ : Aside0 (gb217 ≠ gb210) := ⟨h13_⟩
 have n14_ : Aside0 (Below w.heap.size w w15) := ⟨h14_⟩
 clear BK208
 clear BK209
 clear BK210
 clear HB
 clear h0_ h1_ h2_ h3_ h4_ h5_ h6_ h7_ h8_ h9_ h10_ h11_ h12_ h13_ h14_
 have HO213 := n0_
 have HO216 := n1_
 have BK208 := n2_
 have BK209 := n3_
 have BK210 := n4_
 have BK217 := n5_
 have GW217 := n6_
 have GE217 := n7_
 have NB208_217 := n8_
 have NB217_208 := n9_
 have NB209_217 := n10_
 have NB217_209 := n11_
 have NB210_217 := n12_
 have NB217_210 := n13_
 have HB := n14_
 clear n0_ n1_ n2_ n3_ n4_ n5_ n6_ n7_ n8_ n9_ n10_ n11_ n12_ n13_ n14_
 have hHeld : w15.cell? ⟨gb209, 0, none⟩ = some (.slice A1_0 l1_0.length c1_0) ∧ w15.cell? ⟨gb209, 1, none⟩ = some (.slice A1_1 l1_1.length c1_1) := hS_
 obtain ⟨Ao16, co16, eo16⟩ := Kd.R_slice HO216.out
 (first | subst eo16 | (injection eo16 with f1_ f2_ f3_;have f4_ := f1_.symm;have f5_ := f3_.symm;clear f1_ f2_ f3_;subst f4_;subst f5_))
 obtain ⟨Ao17, co17, eo17⟩ := Kd.R_slice HO213.out
 (first | subst eo17 | (injection eo17 with f1_ f2_ f3_;have f4_ := f1_.symm;have f5_ := f3_.symm;clear f1_ f2_ f3_;subst f4_;subst f5_))
 refine norm_ (a' := ?_) ?_ ?_
 rotate_left
 ·simp only [putAll, Act.put, List.setIfInBounds_toArray, List.set_cons_zero, List.set_cons_succ]
  rfl
 refine one_ (i := 8) (N := none) #[true,true,true,true,true,true,true,true,true] rfl rfl (one_of HT_.out (by kernel_rfl)) (by decide) (fun K hK => ?_)
 have hs18 : w15.cell? ⟨gb217, 0, none⟩ = some (.slice none 0 0) := (blk_cell BK217.out 0).trans rfl
 have hfs18 := blk_frozen BK217.out 0
 have hns18_0 := NB208_217.out
 have hns18_1 := NB209_217.out
 have hns18_2 := NB210_217.out
 have hms18_0 := NB217_208.out
 have hms18_1 := NB217_209.out
 have hms18_2 := NB217_210.out
 have hs19 : w15.cell? ⟨gb217, 1, none⟩ = some (.slice none 0 0) := (blk_cell BK217.out 1).trans rfl
 have hfs19 := blk_frozen BK217.out 1
 have hns19_0 := NB208_217.out
 have hns19_1 := NB209_217.out
 have hns19_2 := NB210_217.out
 have hms19_0 := NB217_208.out
 have hms19_1 := NB217_209.out
 have hms19_2 := NB217_210.out
 refine skip_ (w1 := ?_) (by rfl) rfl ?_ ?_
 rotate_left
 ·go_simp
  rfl
 refine hK.out _ _ ⟨((cell_far (p := ⟨gb217, _, none⟩) NB209_217.out _).trans (((cell_far (p := ⟨gb217, _, none⟩) NB209_217.out _).trans (hHeld.1)))), ((cell_far (p := ⟨gb217, _, none⟩) NB209_217.out _).trans (((cell_far (p := ⟨gb217, _, none⟩) NB209_217.out _).trans (hHeld.2))))⟩ (fun hHeld => ?_)
 clear hK K
 refine done_ (done_of HT_.out (by kernel_rfl)) ?_
 try go_wp2
 go_loopg [8] k (fun kq v8 w' => ∃ (x8_1 : Int) (x218001_1 : List Int) (u218001 : Value), v8 = .int .i64 x8_1 ∧ Aside0 (spec_l8Round.l0 kq l2 x8_1 a0_0 l0_1 t211 x218001_1 = some (r1, r2)) ∧ Aside0 (kq ≤ k) ∧ Aside0 (Kd.R (Kd.int .i64) 3 w' w.heap.size (fun k_ => some k_ ≠ (u218001 : Value).ownBlock) (.slice Ao17 t211.length co17) t211) ∧ Aside0 (Kd.R (Kd.int .i64) 3 w' w.heap.size (fun k_ => some k_ ≠ ((.slice Ao17 t211.length co17) : Value).ownBlock) u218001 x218001_1) ∧ Aside0 (w'.heap[gb208]? = some (.cells #[.int .i64 a0_0, (.slice A0_1 l0_1.length c0_1)] 29 (0, 0))) ∧ Aside0 (w'.heap[gb209]? = some (.cells #[(.slice A1_0 l1_0.length c1_0), (.slice A1_1 l1_1.length c1_1)] 70 (0, 0))) ∧ Aside0 (w'.heap[gb210]? = some (.cells #[(.slice none 0 0), (.slice none 0 0)] 70 (0, 0))) ∧ Aside0 (w'.heap[gb217]? = some (.cells #[(.slice Ao17 t211.length co17), u218001] 70 (0, 0))) ∧ Aside0 (Below w.heap.size w w'))
 case atStart => exact ⟨(0), (t214), (.slice Ao16 t214.length co16), (by first | rfl | (simp;done) | (simp [*];done)), H', ⟨Nat.le_refl _⟩, ⟨by refine rP ?_;exact Kd.R_mono (Kd.R_far (p := ⟨gb217, 1, none⟩) (Kd.R_far (p := ⟨gb217, 0, none⟩) (Kd.R_types HO213.out BK217.out (by decide)) (fun _ hk => hk.2) (.slice Ao17 t211.length co17)) (fun _ hk => hk.2) (.slice Ao16 t214.length co16)) (fun _ hk => hk.1)⟩, ⟨by refine rP ?_;exact Kd.R_mono (Kd.R_far (p := ⟨gb217, 1, none⟩) (Kd.R_far (p := ⟨gb217, 0, none⟩) (Kd.R_types HO216.out BK217.out (by decide)) (fun _ hk => hk.2) (.slice Ao17 t211.length co17)) (fun _ hk => hk.2) (.slice Ao16 t214.length co16)) (fun _ hk => hk.1)⟩, ⟨by refine kP ?_;refine blk_far ?_ NB208_217.out _;refine kP ?_;refine blk_far ?_ NB208_217.out _;exact kP BK208.out⟩, ⟨by refine kP ?_;refine blk_far ?_ NB209_217.out _;refine kP ?_;refine blk_far ?_ NB209_217.out _;exact kP BK209.out⟩, ⟨by refine kP ?_;refine blk_far ?_ NB210_217.out _;refine kP ?_;refine blk_far ?_ NB210_217.out _;exact kP BK210.out⟩, ⟨by refine kP ?_;refine blk_put (cs := #[.slice Ao17 t211.length co17, .slice none 0 0]) ?_ 1 _ rfl;refine kP ?_;refine blk_put (cs := #[.slice none 0 0, .slice none 0 0]) ?_ 0 _ rfl;exact kP BK217.out⟩, ⟨by exact bB⟩⟩
 case round =>
  clear H'
  try clear c1
  try clear c2
  try clear p2
  try clear c8
  try clear c10
  obtain ⟨x8_1, x218001_1, u218001, rfl, HA, HK1, HO_218000, HO_218001, BK208, BK209, BK210, BK217, HB⟩ := hrel
  cases gk with
  | zero => exact absurd HA.out (by simp [spec_l8Round.l0])
  | succ k1 =>
   have H := HA.out
   clear HA
   simp only [spec_l8Round.l0] at H
   by_cases c20 : x8_1 < (l2.length : Int)
   ·rw [if_pos c20] at H
    have c20b0 : decide (x8_1 < (l2.length : Int)) = true := decide_eq_true c20
    clear c20
    by_cases c21 : 0 ≤ x8_1
    ·rw [if_pos c21] at H
     have c21b0 : decide (0 ≤ x8_1) = true := decide_eq_true c21
     clear c21
     replace H := Option.bind_eq_some_iff.mp H
     obtain ⟨t219, A220, H⟩ := H
     replace H : (spec_l8Round.l0 k1 l2 (wrap64 (x8_1 + 1)) a0_0 l0_1 t211 t219) = some (r1, r2) := H
     have A22 := Aside0.mk A220
     clear A220
     have H' := Aside0.mk H
     clear H
     try go_wp2
     have n0_ := Aside0.mk (Kd.R_drew HO_218000.out)
     have n1_ := Aside0.mk (Kd.R_drew HO_218001.out)
     have n2_ := Aside0.mk (blk_drew BK208.out)
     have n3_ := Aside0.mk (blk_drew BK209.out)
     have n4_ := Aside0.mk (blk_drew BK210.out)
     have n5_ := Aside0.mk (blk_drew BK217.out)
     have n6_ := Aside0.mk (below_drew1 HB.out)
     clear HO_218000
     clear HO_218001
     clear BK208
     clear BK209
     clear BK210
     clear BK217
     clear HB
     have HO_218000 := n0_
     have HO_218001 := n1_
     have BK208 := n2_
     have BK209 := n3_
     have BK210 := n4_
     have BK217 := n5_
     have HB := n6_
     clear n0_ n1_ n2_ n3_ n4_ n5_ n6_
     have p218 : 0 ≤ (x8_1 : Int) := oA
     have q218 : x8_1 < (l2.length : Int) := oA
     obtain ⟨ad218, e218, hx218_0⟩ := Kd.at_int HR2.out x8_1 p218 q218
     have hw218_0 := hx218_0
     cases e218
     replace hx218_0 := (HB.out.cell (World.block_lt_of_cell? w _ hx218_0)).trans hx218_0
     replace p218 := eq_true p218
     replace q218 := eq_true q218
     obtain ⟨Ao24, co24, eo24⟩ := Kd.R_slice HO_218001.out
     (first | subst eo24 | (injection eo24 with f1_ f2_ f3_;have f4_ := f1_.symm;have f5_ := f3_.symm;clear f1_ f2_ f3_;subst f4_;subst f5_))
     refine start_ (n := 9) (S := fun w' => w'.cell? ⟨gb217, 0, none⟩ = some (.slice Ao17 t211.length co17) ∧ w'.cell? ⟨gb217, 1, none⟩ = some (.slice Ao24 x218001_1.length co24) ∧ w'.cell? (ad218.add (x8_1).toNat) = some (.int .i64 (rd l2 x8_1))) (ds := [8]) #[false,false,false,false,false,false,false,false,false] (by kernel_rfl) rfl rfl ⟨(blk_cell BK217.out 0).trans rfl, (blk_cell BK217.out 1).trans rfl, ((HB.out.cell (World.block_lt_of_cell? w _ hw218_0)).trans hw218_0)⟩ (fun hHeld => ?_);refine with_tabW spec_l8Round.tab5 spec_l8Round.bits5 (fun HT_ HW_ => ?_)
     generalize wr.drew = w23 at HO_218000 HO_218001 BK208 BK209 BK210 BK217 HB hx218_0 hHeld ⊢
     refine pure_ (i := 0) (N := some 24) (v := ?_) (a' := ?_) #[true,false,false,false,false,false,false,false,false] rfl rfl (any_of HT_.out (by kernel_rfl)) (fun _ _ _ h => h) (Or.inl ⟨by rfl, ?_⟩) ?_ ?_
     rotate_left
     ·intro w'
      go_simp
      with_reducible rfl
     rotate_left
     ·simp only [Act.put, List.setIfInBounds_toArray, List.set_cons_zero, List.set_cons_succ, i64_w, i32_w]
      rfl
     refine pure_ (i := 2) (N := some 26) (v := ?_) (a' := ?_) #[true,false,true,false,false,false,false,false,false] rfl rfl (any_of HT_.out (by kernel_rfl)) (fun _ _ _ h => h) (Or.inl ⟨by rfl, ?_⟩) ?_ ?_
     rotate_left
     ·intro w'
      go_simp
      with_reducible rfl
     rotate_left
     ·simp only [Act.put, List.setIfInBounds_toArray, List.set_cons_zero, List.set_cons_succ, i64_w, i32_w]
      rfl
     refine pure_ (i := 3) (N := some 27) (v := ?_) (a' := ?_) #[true,false,true,true,false,false,false,false,false] rfl rfl (any_of HT_.out (by kernel_rfl)) (fun _ _ _ h => h) (Or.inl ⟨by rfl, ?_⟩) ?_ ?_
     rotate_left
     ·intro w'
      go_simp
      with_reducible rfl
     rotate_left
     ·simp only [Act.put, List.setIfInBounds_toArray, List.set_cons_zero, List.set_cons_succ, i64_w, i32_w]
      rfl
     refine pure_ (i := 4) (N := some 28) (v := ?_) (a' := ?_) #[true,false,true,true,true,false,false,false,false] rfl rfl (any_of HT_.out (by kernel_rfl)) (fun _ _ _ h => h) (Or.inl ⟨by rfl, ?_⟩) ?_ ?_
     rotate_left
     ·intro w'
      go_simp
      with_reducible rfl
     rotate_left
     ·simp only [Act.put, List.setIfInBounds_toArray, List.set_cons_zero, List.set_cons_succ, i64_w, i32_w]
      rfl
     refine take_ (i := 1) (N := some 25) (v := ?_) (a' := ?_) #[true,true,true,true,true,false,false,false,false] rfl rfl (take_ofW HT_.out HW_.out (by kernel_rfl)) (fun _ _ _ h => h) (Or.inl ⟨by rfl, ?_⟩) hHeld ?_ ?_
     rotate_left
     ·rintro w' ⟨s0, s1, s2⟩
      go_simp
      with_reducible rfl
     rotate_left
     ·simp only [Act.put, List.setIfInBounds_toArray, List.set_cons_zero, List.set_cons_succ, i64_w, i32_w]
      rfl
     refine take_ (i := 5) (N := some 29) (v := ?_) (a' := ?_) #[true,true,true,true,true,true,false,false,false] rfl rfl (take_ofW HT_.out HW_.out (by kernel_rfl)) (fun _ _ _ h => h) (Or.inl ⟨by rfl, ?_⟩) hHeld ?_ ?_
     rotate_left
     ·rintro w' ⟨s0, s1, s2⟩
      go_simp
      with_reducible rfl
     rotate_left
     ·simp only [Act.put, List.setIfInBounds_toArray, List.set_cons_zero, List.set_cons_succ, i64_w, i32_w]
      rfl
     refine one_ (i := 6) (N := some 30) #[true,true,true,true,true,true,true,false,false] rfl rfl (one_of HT_.out (by kernel_rfl)) (by decide) (fun K hK => ?_)
     refine goes_ Try.func105 (by kernel_rfl) rfl #[.slice Ao24 x218001_1.length co24, .int .i64 (rd l2 x8_1)] (by rfl) rfl rfl mM ?_
     with_reducible refine (spec_l1Put.calls (fun k_ => some k_ = (.slice Ao24 x218001_1.length co24 : Value).ownBlock) (.slice Ao24 x218001_1.length co24) x218001_1 (rd l2 x8_1) t219 w _ ?side1 ?side2 A22.out).mono ?_
     (case side1 => exact bB)
     (case side2 => exact Kd.R_tight rfl HO_218001.out)
     rintro e w25 ⟨v220, rfl, ho0, hb, hkp⟩
     refine ⟨_, rfl, ?_⟩
     have n0_ := Aside0.mk (Kd.R_mono (ok' := fun k_ => some k_ ≠ (v220 : Value).ownBlock) (Kd.R_keptB (HO_218000.out) hkp (fun k_ hk_ hs_ => (hk_) hs_)) (fun k_ hk_ => fun e_ => Or.elim (ho0.1 k_ e_.symm) (fun hs_ => hk_.2.1 hs_) (fun hn_ => Nat.not_le.2 hk_.2.2 hn_)))
     have n1_ := Aside0.mk (blk_kept (by exact kP BK208.out) hkp (fun hs_ => (fun e_ => (Kd.R_ne HO_218001.out BK208.out (by decide)) e_) hs_))
     have n2_ := Aside0.mk (blk_kept (by exact kP BK209.out) hkp (fun hs_ => (fun e_ => (Kd.R_ne HO_218001.out BK209.out (by decide)) e_) hs_))
     have n3_ := Aside0.mk (blk_kept (by exact kP BK210.out) hkp (fun hs_ => (fun e_ => (Kd.R_ne HO_218001.out BK210.out (by decide)) e_) hs_))
     have n4_ := Aside0.mk (blk_kept (by exact kP BK217.out) hkp (fun hs_ => (fun e_ => (Kd.R_ne HO_218001.out BK217.out (by decide)) e_) hs_))
     have n5_ := Aside0.mk (Kd.R_mono (ok' := fun k_ => some k_ ≠ (.slice Ao17 t211.length co17 : Value).ownBlock) ho0 (fun k_ hk_ => Or.elim hk_ (fun hs_ => fun e_ => (((HO_218000.out).1 k_ e_.symm)) hs_) (fun hn_ => (Kd.fresh' (Kd.R_lt (by exact rP HO_218000.out)) k_ hn_))))
     have n6_ := Aside0.mk (hb)
     clear HO_218000
     clear BK208
     clear BK209
     clear BK210
     clear BK217
     clear HB
     clear HO_218001
     have HO_218000 := n0_
     have BK208 := n1_
     have BK209 := n2_
     have BK210 := n3_
     have BK217 := n4_
     have HO221 := n5_
     have HB := n6_
     clear n0_ n1_ n2_ n3_ n4_ n5_ n6_
     (try clear hb)
     (try clear hkp)
     (try clear ho0)
     obtain ⟨Ao26, co26, eo26⟩ := Kd.R_slice HO221.out
     (first | subst eo26 | (injection eo26 with f1_ f2_ f3_;have f4_ := f1_.symm;have f5_ := f3_.symm;clear f1_ f2_ f3_;subst f4_;subst f5_))
     refine hK.out _ _ ⟨(blk_cell BK217.out 0).trans rfl, (blk_cell BK217.out 1).trans rfl, ((HB.out.cell (World.block_lt_of_cell? w _ hw218_0)).trans hw218_0)⟩ (fun hHeld => ?_)
     clear hK K
     refine norm_ (a' := ?_) ?_ ?_
     rotate_left
     ·show Act.put _ (some 30) _ = _
      simp only [Act.put, List.setIfInBounds_toArray, List.set_cons_zero, List.set_cons_succ, i64_w, i32_w]
      rfl
     refine pure_ (i := 7) (N := some 31) (v := ?_) (a' := ?_) #[true,true,true,true,true,true,true,true,false] rfl rfl (any_of HT_.out (by kernel_rfl)) (fun _ _ _ h => h) (Or.inl ⟨by rfl, ?_⟩) ?_ ?_
     rotate_left
     ·intro w'
      go_simp
      with_reducible rfl
     rotate_left
     ·simp only [Act.put, List.setIfInBounds_toArray, List.set_cons_zero, List.set_cons_succ, i64_w, i32_w]
      rfl
     refine last_ (i := 8) (N := none) #[true,true,true,true,true,true,true,true,true] rfl rfl (one_of HT_.out (by kernel_rfl)) (by decide) (fun K hK => ?_)
     have hs27 : w25.cell? ⟨gb217, 1, none⟩ = some (.slice Ao24 x218001_1.length co24) := (blk_cell BK217.out 1).trans rfl
     have hfs27 := blk_frozen BK217.out 1
     have hns27_0 := NB208_217.out
     have hns27_1 := NB209_217.out
     have hns27_2 := NB210_217.out
     have hms27_0 := NB217_208.out
     have hms27_1 := NB217_209.out
     have hms27_2 := NB217_210.out
     refine skip_ (w1 := ?_) (by rfl) rfl ?_ ?_
     rotate_left
     ·go_simp
      rfl
     refine hK.out _ _ ?_
     clear hK K
     refine done_ (done_of HT_.out (by kernel_rfl)) ?_
     try go_wp2
     go_roundg k1
     case measure => have := HK1.out;omega
     case rel => exact ⟨(wrap64 (x8_1 + 1)), (t219), (.slice Ao26 t219.length co26), (by first | rfl | (simp;done) | (simp [*];done)), H', ⟨by have := HK1.out;omega⟩, ⟨by refine rP ?_;exact Kd.R_mono (Kd.R_far (p := ⟨gb217, 1, none⟩) (Kd.R_types HO_218000.out BK217.out (by decide)) (fun _ hk => hk.2) (.slice Ao26 t219.length co26)) (fun _ hk => hk.1)⟩, ⟨by refine rP ?_;exact Kd.R_mono (Kd.R_far (p := ⟨gb217, 1, none⟩) (Kd.R_types HO221.out BK217.out (by decide)) (fun _ hk => hk.2) (.slice Ao26 t219.length co26)) (fun _ hk => hk.1)⟩, ⟨by refine kP ?_;refine blk_far ?_ NB208_217.out _;exact kP BK208.out⟩, ⟨by refine kP ?_;refine blk_far ?_ NB209_217.out _;exact kP BK209.out⟩, ⟨by refine kP ?_;refine blk_far ?_ NB210_217.out _;exact kP BK210.out⟩, ⟨by refine kP ?_;refine blk_put (cs := #[.slice Ao17 t211.length co17, .slice Ao24 x218001_1.length co24]) ?_ 1 _ rfl;exact kP BK217.out⟩, ⟨by exact bB⟩⟩
    ·rw [if_neg c21] at H
     exact absurd H (by simp)
   ·rw [if_neg c20] at H
    have c20b0 : decide (x8_1 < (l2.length : Int)) = false := decide_eq_false c20
    clear c20
    replace H := Option.bind_eq_some_iff.mp H
    obtain ⟨t222, A280, H⟩ := H
    replace H : (spec_l8Round.l1 k1 t222 0 t211 x218001_1) = some (r1, r2) := H
    have A28 := Aside0.mk A280
    clear A280
    have H' := Aside0.mk H
    clear H
    have hnb29 := NB208_209.out
    have hnc29 := NB209_208.out
    have hnb30 := NB208_210.out
    have hnc30 := NB210_208.out
    have hnb31 := NB208_217.out
    have hnc31 := NB217_208.out
    have hcz32_0 : wr.cell? ⟨gb208, 0, none⟩ = some (.int .i64 a0_0) := (blk_cell BK208.out 0).trans rfl
    have hcz32_1 : wr.cell? ⟨gb208, 1, none⟩ = some (.slice A0_1 l0_1.length c0_1) := (blk_cell BK208.out 1).trans rfl
    have hfz32_0 := blk_frozen BK208.out 0
    have hfz32_1 := blk_frozen BK208.out 1
    have hnb33 := NB217_209.out
    have hnc33 := NB209_217.out
    have hnb34 := NB217_210.out
    have hnc34 := NB210_217.out
    have hcz35_0 : wr.cell? ⟨gb217, 0, none⟩ = some (.slice Ao17 t211.length co17) := (blk_cell BK217.out 0).trans rfl
    have hcz35_1 : wr.cell? ⟨gb217, 1, none⟩ = some (u218001) := (blk_cell BK217.out 1).trans rfl
    have hfz35_0 := blk_frozen BK217.out 0
    have hfz35_1 := blk_frozen BK217.out 1
    obtain ⟨Ao36, co36, eo36⟩ := Kd.R_slice HO_218001.out
    subst eo36
    go_wp2_with (first | ((with_reducible refine gate_callee (f := 81) rfl ?_);refine goesL_ (some 34) rfl rfl Try.func81 (by kernel_rfl) rfl #[.agg #[.int .i64 a0_0, .slice A0_1 l0_1.length c0_1], .agg #[.slice Ao17 t211.length co17, .slice Ao36 x218001_1.length co36]] rfl mM ?_;(with_reducible refine (spec_l8Next.calls k1 a0_0 _ _ l0_1 _ _ t211 _ _ x218001_1 t222 _ ?side1 ?side2 ?side3 ?side4 ?side5 ?side6 A28.out).mono ?_);(case side1 => exact cP (Kd.C_below HR0_1.out HB.out));(case side2 => exact HC0_1.out);(case side3 => exact cP (Kd.R_reads' HO_218000.out).2.2);(case side4 => exact (Kd.R_reads' HO_218000.out).2.1);(case side5 => exact cP (Kd.R_reads' HO_218001.out).2.2);(case side6 => exact (Kd.R_reads' HO_218001.out).2.1);rintro e w37 ⟨v223, rfl, ho0, hb⟩;refine ⟨_, rfl, ?_⟩;have n0_ := Aside0.mk (Kd.R_elder' (by exact rP HO_218000.out) (Kd.R_base ho0) hb);have n1_ := Aside0.mk (Kd.R_elder' (by exact rP HO_218001.out) (Kd.R_base ho0) hb);have n2_ := Aside0.mk (Kd.R_lower (Kd.R_new' (Kd.R_new' ho0 (Kd.R_lt (by exact rP HO_218000.out))) (Kd.R_lt (by exact rP HO_218001.out))) (below_size (by exact bB)));have n3_ := Aside0.mk (blk_below (g := gb208) (o := .cells #[.int .i64 a0_0, .slice A0_1 l0_1.length c0_1] 29 (0, 0)) (by exact kP BK208.out) hb);have n4_ := Aside0.mk (blk_below (g := gb209) (o := .cells #[.slice A1_0 l1_0.length c1_0, .slice A1_1 l1_1.length c1_1] 70 (0, 0)) (by exact kP BK209.out) hb);have n5_ := Aside0.mk (blk_below (g := gb210) (o := .cells #[.slice none 0 0, .slice none 0 0] 70 (0, 0)) (by exact kP BK210.out) hb);have n6_ := Aside0.mk (blk_below (g := gb217) (o := .cells #[.slice Ao17 t211.length co17, .slice Ao36 x218001_1.length co36] 70 (0, 0)) (by exact kP BK217.out) hb);have n7_ := Aside0.mk (below_step (by exact bB) hb);clear HO_218000;clear HO_218001;clear BK208;clear BK209;clear BK210;clear BK217;clear HB;have HO_218000 := n0_;have HO_218001 := n1_;have HO224 := n2_;have BK208 := n3_;have BK209 := n4_;have BK210 := n5_;have BK217 := n6_;have HB := n7_;clear n0_ n1_ n2_ n3_ n4_ n5_ n6_ n7_;(try clear hb);(try clear hb2);(try clear hk);(try clear hi);(try clear ho0)))
    go_loopg [10] k1 (fun kq v10 w' => ∃ (x10_2 : Int) (x218000_2 : List Int) (u218000 : Value), v10 = .int .i64 x10_2 ∧ Aside0 (spec_l8Round.l1 kq t222 x10_2 x218000_2 x218001_1 = some (r1, r2)) ∧ Aside0 (kq ≤ k1) ∧ Aside0 (Kd.R (Kd.int .i64) 3 w' w.heap.size (fun k_ => some k_ ≠ (u218000 : Value).ownBlock ∧ some k_ ≠ ((.slice Ao36 x218001_1.length co36) : Value).ownBlock) v223 t222) ∧ Aside0 (Kd.R (Kd.int .i64) 3 w' w.heap.size (fun k_ => some k_ ≠ (v223 : Value).ownBlock ∧ some k_ ≠ ((.slice Ao36 x218001_1.length co36) : Value).ownBlock) u218000 x218000_2) ∧ Aside0 (Kd.R (Kd.int .i64) 3 w' w.heap.size (fun k_ => some k_ ≠ (v223 : Value).ownBlock ∧ some k_ ≠ (u218000 : Value).ownBlock) (.slice Ao36 x218001_1.length co36) x218001_1) ∧ Aside0 (w'.heap[gb208]? = some (.cells #[.int .i64 a0_0, (.slice A0_1 l0_1.length c0_1)] 29 (0, 0))) ∧ Aside0 (w'.heap[gb209]? = some (.cells #[(.slice A1_0 l1_0.length c1_0), (.slice A1_1 l1_1.length c1_1)] 70 (0, 0))) ∧ Aside0 (w'.heap[gb210]? = some (.cells #[(.slice none 0 0), (.slice none 0 0)] 70 (0, 0))) ∧ Aside0 (w'.heap[gb217]? = some (.cells #[u218000, (.slice Ao36 x218001_1.length co36)] 70 (0, 0))) ∧ Aside0 (Below w.heap.size w w'))
    case atStart => exact ⟨(0), (t211), (.slice Ao17 t211.length co17), (by first | rfl | (simp;done) | (simp [*];done)), H', ⟨Nat.le_refl _⟩, ⟨by refine rP ?_;exact Kd.R_mono HO224.out (fun _ hk => ⟨hk.1.2, hk.2⟩)⟩, ⟨by refine rP ?_;exact Kd.R_mono HO_218000.out (fun _ hk => ⟨hk.2, hk.1⟩)⟩, ⟨by refine rP ?_;exact Kd.R_mono HO_218001.out (fun _ hk => ⟨hk.2, hk.1⟩)⟩, ⟨by exact kP BK208.out⟩, ⟨by exact kP BK209.out⟩, ⟨by exact kP BK210.out⟩, ⟨by exact kP BK217.out⟩, ⟨by exact bB⟩⟩
    case round =>
     clear H'
     try clear c1
     try clear c2
     try clear p2
     try clear q2
     try clear hx2
     try clear c3
     try clear p6
     try clear c8
     try clear c10
     try clear c20
     try clear c20b0
     try clear c21
     try clear c21b0
     try clear p21
     try clear q21
     try clear hx21
     try clear c29
     try clear c30
     try clear c31
     try clear c33
     try clear c34
     try clear hcz32_0
     try clear hcz32_1
     try clear hcz35_0
     try clear hcz35_1
     try clear hfz32_0
     try clear hfz32_1
     try clear hfz35_0
     try clear hfz35_1
     try clear hx218_0
     try clear p2
     try clear p218
     try clear q218
     obtain ⟨x10_2, x218000_2, u218000, rfl, HA, HK2, HO_9, HO_218000, HO_218001, BK208, BK209, BK210, BK217, HB⟩ := hrel
     cases gk with
     | zero => exact absurd HA.out (by simp [spec_l8Round.l1])
     | succ k2 =>
      have H := HA.out
      clear HA
      simp only [spec_l8Round.l1] at H
      by_cases c38 : x10_2 < (t222.length : Int)
      ·rw [if_pos c38] at H
       have c38b0 : decide (x10_2 < (t222.length : Int)) = true := decide_eq_true c38
       clear c38
       by_cases c39 : 0 ≤ x10_2
       ·rw [if_pos c39] at H
        have c39b0 : decide (0 ≤ x10_2) = true := decide_eq_true c39
        clear c39
        replace H := Option.bind_eq_some_iff.mp H
        obtain ⟨t226, A400, H⟩ := H
        replace H : (spec_l8Round.l1 k2 t222 (wrap64 (x10_2 + 1)) t226 x218001_1) = some (r1, r2) := H
        have A40 := Aside0.mk A400
        clear A400
        have H' := Aside0.mk H
        clear H
        obtain ⟨Ao41, co41, eo41⟩ := Kd.R_slice HO_9.out
        subst eo41
        try go_wp2
        have n0_ := Aside0.mk (Kd.R_drew HO_9.out)
        have n1_ := Aside0.mk (Kd.R_drew HO_218000.out)
        have n2_ := Aside0.mk (Kd.R_drew HO_218001.out)
        have n3_ := Aside0.mk (blk_drew BK208.out)
        have n4_ := Aside0.mk (blk_drew BK209.out)
        have n5_ := Aside0.mk (blk_drew BK210.out)
        have n6_ := Aside0.mk (blk_drew BK217.out)
        have n7_ := Aside0.mk (below_drew1 HB.out)
        clear HO_9
        clear HO_218000
        clear HO_218001
        clear BK208
        clear BK209
        clear BK210
        clear BK217
        clear HB
        have HO_9 := n0_
        have HO_218000 := n1_
        have HO_218001 := n2_
        have BK208 := n3_
        have BK209 := n4_
        have BK210 := n5_
        have BK217 := n6_
        have HB := n7_
        clear n0_ n1_ n2_ n3_ n4_ n5_ n6_ n7_
        have p225 : 0 ≤ (x10_2 : Int) := oA
        have q225 : x10_2 < (t222.length : Int) := oA
        obtain ⟨ad225, e225, hx225_0⟩ := Kd.at_int (Kd.R_reads' HO_9.out).2.2 x10_2 p225 q225
        cases e225
        replace p225 := eq_true p225
        replace q225 := eq_true q225
        obtain ⟨Ao43, co43, eo43⟩ := Kd.R_slice HO_218000.out
        (first | subst eo43 | (injection eo43 with f1_ f2_ f3_;have f4_ := f1_.symm;have f5_ := f3_.symm;clear f1_ f2_ f3_;subst f4_;subst f5_))
        refine start_ (n := 9) (S := fun w' => w'.cell? ⟨gb217, 0, none⟩ = some (.slice Ao43 x218000_2.length co43) ∧ w'.cell? ⟨gb217, 1, none⟩ = some (.slice Ao36 x218001_1.length co36) ∧ w'.cell? (ad225.add (x10_2).toNat) = some (.int .i64 (rd t222 x10_2))) (ds := [8]) #[false,false,false,false,false,false,false,false,false] (by kernel_rfl) rfl rfl ⟨(blk_cell BK217.out 0).trans rfl, (blk_cell BK217.out 1).trans rfl, hx225_0⟩ (fun hHeld => ?_);refine with_tabW spec_l8Round.tab10 spec_l8Round.bits10 (fun HT_ HW_ => ?_)
        generalize wr.drew = w42 at HO_9 HO_218000 HO_218001 BK208 BK209 BK210 BK217 HB hx225_0 hHeld ⊢
        refine pure_ (i := 0) (N := some 41) (v := ?_) (a' := ?_) #[true,false,false,false,false,false,false,false,false] rfl rfl (any_of HT_.out (by kernel_rfl)) (fun _ _ _ h => h) (Or.inl ⟨by rfl, ?_⟩) ?_ ?_
        rotate_left
        ·intro w'
         go_simp
         with_reducible rfl
        rotate_left
        ·simp only [Act.put, List.setIfInBounds_toArray, List.set_cons_zero, List.set_cons_succ, i64_w, i32_w]
         rfl
        refine pure_ (i := 2) (N := some 43) (v := ?_) (a' := ?_) #[true,false,true,false,false,false,false,false,false] rfl rfl (any_of HT_.out (by kernel_rfl)) (fun _ _ _ h => h) (Or.inl ⟨by rfl, ?_⟩) ?_ ?_
        rotate_left
        ·intro w'
         go_simp
         with_reducible rfl
        rotate_left
        ·simp only [Act.put, List.setIfInBounds_toArray, List.set_cons_zero, List.set_cons_succ, i64_w, i32_w]
         rfl
        refine pure_ (i := 3) (N := some 44) (v := ?_) (a' := ?_) #[true,false,true,true,false,false,false,false,false] rfl rfl (any_of HT_.out (by kernel_rfl)) (fun _ _ _ h => h) (Or.inl ⟨by rfl, ?_⟩) ?_ ?_
        rotate_left
        ·intro w'
         go_simp
         with_reducible rfl
        rotate_left
        ·simp only [Act.put, List.setIfInBounds_toArray, List.set_cons_zero, List.set_cons_succ, i64_w, i32_w]
         rfl
        refine pure_ (i := 4) (N := some 45) (v := ?_) (a' := ?_) #[true,false,true,true,true,false,false,false,false] rfl rfl (any_of HT_.out (by kernel_rfl)) (fun _ _ _ h => h) (Or.inl ⟨by rfl, ?_⟩) ?_ ?_
        rotate_left
        ·intro w'
         go_simp
         with_reducible rfl
        rotate_left
        ·simp only [Act.put, List.setIfInBounds_toArray, List.set_cons_zero, List.set_cons_succ, i64_w, i32_w]
         rfl
        refine take_ (i := 1) (N := some 42) (v := ?_) (a' := ?_) #[true,true,true,true,true,false,false,false,false] rfl rfl (take_ofW HT_.out HW_.out (by kernel_rfl)) (fun _ _ _ h => h) (Or.inl ⟨by rfl, ?_⟩) hHeld ?_ ?_
        rotate_left
        ·rintro w' ⟨s0, s1, s2⟩
         go_simp
         with_reducible rfl
        rotate_left
        ·simp only [Act.put, List.setIfInBounds_toArray, List.set_cons_zero, List.set_cons_succ, i64_w, i32_w]
         rfl
        refine take_ (i := 5) (N := some 46) (v := ?_) (a' := ?_) #[true,true,true,true,true,true,false,false,false] rfl rfl (take_ofW HT_.out HW_.out (by kernel_rfl)) (fun _ _ _ h => h) (Or.inl ⟨by rfl, ?_⟩) hHeld ?_ ?_
        rotate_left
        ·rintro w' ⟨s0, s1, s2⟩
         go_simp
         with_reducible rfl
        rotate_left
        ·simp only [Act.put, List.setIfInBounds_toArray, List.set_cons_zero, List.set_cons_succ, i64_w, i32_w]
         rfl
        refine one_ (i := 6) (N := some 47) #[true,true,true,true,true,true,true,false,false] rfl rfl (one_of HT_.out (by kernel_rfl)) (by decide) (fun K hK => ?_)
        refine goes_ Try.func105 (by kernel_rfl) rfl #[.slice Ao43 x218000_2.length co43, .int .i64 (rd t222 x10_2)] (by rfl) rfl rfl mM ?_
        with_reducible refine (spec_l1Put.calls (fun k_ => some k_ = (.slice Ao43 x218000_2.length co43 : Value).ownBlock) (.slice Ao43 x218000_2.length co43) x218000_2 (rd t222 x10_2) t226 w _ ?side1 ?side2 A40.out).mono ?_
        (case side1 => exact bB)
        (case side2 => exact Kd.R_tight rfl HO_218000.out)
        rintro e w44 ⟨v227, rfl, ho0, hb, hkp⟩
        have HS2_ := cell_kept (hHeld.2.2) hkp (by first | (rw [add_block];exact (fun hs_ => (((HO_9.out).1 _ rfl).1) hs_)) | (show ¬ _;simp only [add_block];exact (fun hs_ => (((HO_9.out).1 _ rfl).1) hs_)) | exact (fun hs_ => (((HO_9.out).1 _ rfl).1) hs_))
        refine ⟨_, rfl, ?_⟩
        have n0_ := Aside0.mk (Kd.R_mono (ok' := fun k_ => some k_ ≠ (.slice Ao36 x218001_1.length co36 : Value).ownBlock ∧ some k_ ≠ (v227 : Value).ownBlock) (Kd.R_keptB (HO_9.out) hkp (fun k_ hk_ hs_ => (hk_.1) hs_)) (fun k_ hk_ => ⟨hk_.1.2, fun e_ => Or.elim (ho0.1 k_ e_.symm) (fun hs_ => hk_.2.1 hs_) (fun hn_ => Nat.not_le.2 hk_.2.2 hn_)⟩))
        have n1_ := Aside0.mk (Kd.R_mono (ok' := fun k_ => some k_ ≠ (.slice (some ad225) t222.length co41 : Value).ownBlock ∧ some k_ ≠ (v227 : Value).ownBlock) (Kd.R_keptB (HO_218001.out) hkp (fun k_ hk_ hs_ => (hk_.2) hs_)) (fun k_ hk_ => ⟨hk_.1.1, fun e_ => Or.elim (ho0.1 k_ e_.symm) (fun hs_ => hk_.2.1 hs_) (fun hn_ => Nat.not_le.2 hk_.2.2 hn_)⟩))
        have n2_ := Aside0.mk (blk_kept (by exact kP BK208.out) hkp (fun hs_ => (fun e_ => (Kd.R_ne HO_218000.out BK208.out (by decide)) e_) hs_))
        have n3_ := Aside0.mk (blk_kept (by exact kP BK209.out) hkp (fun hs_ => (fun e_ => (Kd.R_ne HO_218000.out BK209.out (by decide)) e_) hs_))
        have n4_ := Aside0.mk (blk_kept (by exact kP BK210.out) hkp (fun hs_ => (fun e_ => (Kd.R_ne HO_218000.out BK210.out (by decide)) e_) hs_))
        have n5_ := Aside0.mk (blk_kept (by exact kP BK217.out) hkp (fun hs_ => (fun e_ => (Kd.R_ne HO_218000.out BK217.out (by decide)) e_) hs_))
        have n6_ := Aside0.mk (Kd.R_mono (ok' := fun k_ => some k_ ≠ (.slice (some ad225) t222.length co41 : Value).ownBlock ∧ some k_ ≠ (.slice Ao36 x218001_1.length co36 : Value).ownBlock) ho0 (fun k_ hk_ => ⟨Or.elim hk_ (fun hs_ => fun e_ => (((HO_9.out).1 k_ e_.symm).1) hs_) (fun hn_ => (Kd.fresh' (Kd.R_lt (by exact rP HO_9.out)) k_ hn_)), Or.elim hk_ (fun hs_ => fun e_ => (((HO_218001.out).1 k_ e_.symm).2) hs_) (fun hn_ => (Kd.fresh' (Kd.R_lt (by exact rP HO_218001.out)) k_ hn_))⟩))
        have n7_ := Aside0.mk (hb)
        clear HO_9
        clear HO_218001
        clear BK208
        clear BK209
        clear BK210
        clear BK217
        clear HB
        clear HO_218000
        have HO_9 := n0_
        have HO_218001 := n1_
        have BK208 := n2_
        have BK209 := n3_
        have BK210 := n4_
        have BK217 := n5_
        have HO228 := n6_
        have HB := n7_
        clear n0_ n1_ n2_ n3_ n4_ n5_ n6_ n7_
        (try clear hb)
        (try clear hkp)
        (try clear ho0)
        obtain ⟨Ao45, co45, eo45⟩ := Kd.R_slice HO228.out
        (first | subst eo45 | (injection eo45 with f1_ f2_ f3_;have f4_ := f1_.symm;have f5_ := f3_.symm;clear f1_ f2_ f3_;subst f4_;subst f5_))
        refine hK.out _ _ ⟨(blk_cell BK217.out 0).trans rfl, (blk_cell BK217.out 1).trans rfl, HS2_⟩ (fun hHeld => ?_)
        clear hK K
        refine norm_ (a' := ?_) ?_ ?_
        rotate_left
        ·show Act.put _ (some 47) _ = _
         simp only [Act.put, List.setIfInBounds_toArray, List.set_cons_zero, List.set_cons_succ, i64_w, i32_w]
         rfl
        refine pure_ (i := 7) (N := some 48) (v := ?_) (a' := ?_) #[true,true,true,true,true,true,true,true,false] rfl rfl (any_of HT_.out (by kernel_rfl)) (fun _ _ _ h => h) (Or.inl ⟨by rfl, ?_⟩) ?_ ?_
        rotate_left
        ·intro w'
         go_simp
         with_reducible rfl
        rotate_left
        ·simp only [Act.put, List.setIfInBounds_toArray, List.set_cons_zero, List.set_cons_succ, i64_w, i32_w]
         rfl
        refine last_ (i := 8) (N := none) #[true,true,true,true,true,true,true,true,true] rfl rfl (one_of HT_.out (by kernel_rfl)) (by decide) (fun K hK => ?_)
        have hs46 : w44.cell? ⟨gb217, 0, none⟩ = some (.slice Ao43 x218000_2.length co43) := (blk_cell BK217.out 0).trans rfl
        have hfs46 := blk_frozen BK217.out 0
        have hns46_0 := NB208_217.out
        have hns46_1 := NB209_217.out
        have hns46_2 := NB210_217.out
        have hms46_0 := NB217_208.out
        have hms46_1 := NB217_209.out
        have hms46_2 := NB217_210.out
        refine skip_ (w1 := ?_) (by rfl) rfl ?_ ?_
        rotate_left
        ·go_simp
         rfl
        refine hK.out _ _ ?_
        clear hK K
        refine done_ (done_of HT_.out (by kernel_rfl)) ?_
        try go_wp2
        go_roundg k2
        case measure => have := HK1.out;have := HK2.out;omega
        case rel => exact ⟨(wrap64 (x10_2 + 1)), (t226), (.slice Ao45 t226.length co45), (by first | rfl | (simp;done) | (simp [*];done)), H', ⟨by have := HK1.out;have := HK2.out;omega⟩, ⟨by refine rP ?_;exact Kd.R_mono (Kd.R_far (p := ⟨gb217, 0, none⟩) (Kd.R_types HO_9.out BK217.out (by decide)) (fun _ hk => hk.2) (.slice Ao45 t226.length co45)) (fun _ hk => ⟨hk.1.2, hk.1.1⟩)⟩, ⟨by refine rP ?_;exact Kd.R_mono (Kd.R_far (p := ⟨gb217, 0, none⟩) (Kd.R_types HO228.out BK217.out (by decide)) (fun _ hk => hk.2) (.slice Ao45 t226.length co45)) (fun _ hk => ⟨hk.1.1, hk.1.2⟩)⟩, ⟨by refine rP ?_;exact Kd.R_mono (Kd.R_far (p := ⟨gb217, 0, none⟩) (Kd.R_types HO_218001.out BK217.out (by decide)) (fun _ hk => hk.2) (.slice Ao45 t226.length co45)) (fun _ hk => ⟨hk.1.1, hk.1.2⟩)⟩, ⟨by refine kP ?_;refine blk_far ?_ NB208_217.out _;exact kP BK208.out⟩, ⟨by refine kP ?_;refine blk_far ?_ NB209_217.out _;exact kP BK209.out⟩, ⟨by refine kP ?_;refine blk_far ?_ NB210_217.out _;exact kP BK210.out⟩, ⟨by refine kP ?_;refine blk_put (cs := #[.slice Ao43 x218000_2.length co43, .slice Ao36 x218001_1.length co36]) ?_ 0 _ rfl;exact kP BK217.out⟩, ⟨by exact bB⟩⟩
       ·rw [if_neg c39] at H
        exact absurd H (by simp)
      ·rw [if_neg c38] at H
       have c38b0 : decide (x10_2 < (t222.length : Int)) = false := decide_eq_false c38
       clear c38
       simp only [Option.some.injEq, Prod.mk.injEq] at H
       obtain ⟨rfl, rfl⟩ := H
       obtain ⟨Ao47, co47, eo47⟩ := Kd.R_slice HO_9.out
       subst eo47
       have hnb48 := NB217_208.out
       have hnc48 := NB208_217.out
       have hnb49 := NB217_209.out
       have hnc49 := NB209_217.out
       have hnb50 := NB217_210.out
       have hnc50 := NB210_217.out
       have hcz51_0 : wr.cell? ⟨gb217, 0, none⟩ = some (u218000) := (blk_cell BK217.out 0).trans rfl
       have hcz51_1 : wr.cell? ⟨gb217, 1, none⟩ = some (.slice Ao36 x218001_1.length co36) := (blk_cell BK217.out 1).trans rfl
       have hfz51_0 := blk_frozen BK217.out 0
       have hfz51_1 := blk_frozen BK217.out 1
       obtain ⟨Ao52, co52, eo52⟩ := Kd.R_slice HO_218000.out
       subst eo52
       have hnb53 := NB210_208.out
       have hnc53 := NB208_210.out
       have hnb54 := NB210_209.out
       have hnc54 := NB209_210.out
       have hcz55_0 : wr.cell? ⟨gb210, 0, none⟩ = some (.slice none 0 0) := (blk_cell BK210.out 0).trans rfl
       have hcz55_1 : wr.cell? ⟨gb210, 1, none⟩ = some (.slice none 0 0) := (blk_cell BK210.out 1).trans rfl
       have hfz55_0 := blk_frozen BK210.out 0
       have hfz55_1 := blk_frozen BK210.out 1
       go_wp2
       refine bodyPost_ret (results_cell_row rfl _ _ gb210 70 #[.slice Ao52 x218000_2.length co52, .slice Ao36 x218001_1.length co36] (0, 0) _ rfl (by refine kP ?_;refine blk_put (cs := #[.slice Ao52 x218000_2.length co52, .slice none 0 0]) ?_ 1 _ rfl;refine kP ?_;refine blk_put (cs := #[.slice none 0 0, .slice none 0 0]) ?_ 0 _ rfl;exact kP BK210.out) Try.underlying70 rfl (by kernel_rfl)) rfl ?_
       exact ⟨_, _, by first | rfl | (simp [errW_none, errW_some] <;> rfl) | (simp [*, errW_none, errW_some] <;> rfl), by refine rP ?_;exact Kd.R_mono (Kd.R_far (p := ⟨gb210, 1, none⟩) (Kd.R_far (p := ⟨gb210, 0, none⟩) (Kd.R_types HO_218000.out BK210.out (by decide)) (fun _ hk => hk.2) (.slice Ao52 x218000_2.length co52)) (fun _ hk => hk.2) (.slice Ao36 x218001_1.length co36)) (fun _ hk => hk.1.2), by refine rP ?_;exact Kd.R_mono (Kd.R_far (p := ⟨gb210, 1, none⟩) (Kd.R_far (p := ⟨gb210, 0, none⟩) (Kd.R_types HO_218001.out BK210.out (by decide)) (fun _ hk => hk.2) (.slice Ao52 x218000_2.length co52)) (fun _ hk => hk.2) (.slice Ao36 x218001_1.length co36)) (fun _ hk => hk.1.2), by exact bB⟩




end Go.Proofs.Ytaddgielnfhhpaa.QBestFirePlan
