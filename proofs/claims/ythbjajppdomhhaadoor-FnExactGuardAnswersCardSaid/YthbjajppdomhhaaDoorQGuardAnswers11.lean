import Derived.Test.YthbjajppdomhhaaDoorQGuardAnswers0
import Derived.Test.YthbjajppdomhhaaDoorQGuardAnswers3
import Derived.Test.YthbjajppdomhhaaDoorQGuardAnswers4
import Derived.Test.YthbjajppdomhhaaDoorQGuardAnswers5
import Derived.Test.YthbjajppdomhhaaDoorQGuardAnswers9
import Derived.Test.YthbjajppdomhhaaDoorQGuardAnswers10
namespace Go.Proofs.YthbjajppdomhhaaDoor.QGuardAnswers
open Go.RowKit Go.Proofs.YthbjajppdomhhaaDoorW.PrintWords Go.Proofs.YthbjajppdomhhaaDoorW.PrintLast Go.Proofs.YthbjajppdomhhaaDoorW.PrintMore
attribute [local go_sem] max2_int min2_int max_two min_two max_three min_three max_four min_four   -- for this text's walks alone
set_option linter.unusedVariables false
set_option linter.unusedSimpArgs false
/-! ### spec_GuardAnswers: function 36 -/
mutual
def spec_GuardAnswers.j0 : Nat → List Int → Int → Bool → List (List Int) → Bool → Int → List (S92) → Option ((List (List Int)) × Bool)
 | 0, _, _, _, _, _, _, _ => none
 | k + 1, x1, x2, x3, x10, x34, x277000, x277001 => if x34 = true then (some (x10, false)) else ((spec_l10Sets.f k x277000 x277001 (x1.length : Int)).bind fun t284 => ((spec_l4At.f k t284 x1).bind fun t287 => ((spec_l10Answers.f k x277000 x277001 t284 t287 x2 x3).bind fun t288 => (spec_GuardAnswers.l0 k x10 t284 t288 0))))
def spec_GuardAnswers.l0 : Nat → List (List Int) → List (List Int) → List Int → Int → Option ((List (List Int)) × Bool)
 | 0, _, _, _, _ => none
 | k + 1, x10, x11, x12, x13 => if x13 < (x12.length : Int) then (if 0 ≤ x13 then (if 0 ≤ (rd x12 x13) then (if (rd x12 x13) < (x11.length : Int) then (if x10.length < 5864062014805 then (spec_GuardAnswers.l0 k (x10 ++ [rd_L2 x11 (rd x12 x13)]) x11 x12 (wrap64 (x13 + 1))) else (none)) else (none)) else (none)) else (none)) else (some (x10, true))
end
def spec_GuardAnswers.f (k : Nat) (a0_0 : Int) (l0_1 : List (S92)) (l1 : List Int) (a2 : Int) (a3 : Bool) : Option ((List (List Int)) × Bool) := (some (([] : List (List Int)) : List (List Int))).bind fun y277 => ((spec_l2Good.f a0_0 l0_1).bind fun t280 => (if t280 = true then ((spec_l2Set.f k a0_0 l0_1 l1).bind fun t281 => (if t281 = true then ((spec_l2Node.f a0_0 l0_1 a2).bind fun t282 => (if t282 = true then ((spec_l1Has.f k l1 a2).bind fun t283 => (spec_GuardAnswers.j0 k l1 a2 a3 y277 t283 a0_0 l0_1)) else (spec_GuardAnswers.j0 k l1 a2 a3 y277 true a0_0 l0_1))) else (spec_GuardAnswers.j0 k l1 a2 a3 y277 true a0_0 l0_1))) else (spec_GuardAnswers.j0 k l1 a2 a3 y277 true a0_0 l0_1)))
theorem spec_GuardAnswers.mono_l : ∀ k, (∀ y0 y1 y2 y3 y4 y5 y6, LeO (spec_GuardAnswers.j0 k y0 y1 y2 y3 y4 y5 y6) (spec_GuardAnswers.j0 (k + 1) y0 y1 y2 y3 y4 y5 y6)) ∧ (∀ y0 y1 y2 y3, LeO (spec_GuardAnswers.l0 k y0 y1 y2 y3) (spec_GuardAnswers.l0 (k + 1) y0 y1 y2 y3))
 | 0 => ⟨fun _ _ _ _ _ _ _ r h => by simp [spec_GuardAnswers.j0] at h, fun _ _ _ _ r h => by simp [spec_GuardAnswers.l0] at h⟩
 | k + 1 => by
  obtain ⟨ih0, ih1⟩ := spec_GuardAnswers.mono_l k
  refine ⟨?_, ?_⟩
  ·intro y0 y1 y2 y3 y4 y5 y6
   unfold spec_GuardAnswers.j0
   repeat' first
   | (with_reducible exact ih0 _ _ _ _ _ _ _)
   | (with_reducible exact ih1 _ _ _ _)
   | (with_reducible exact spec_l10Answers.mono _ _ _ _ _ _ _)
   | (with_reducible exact spec_l10Sets.mono _ _ _ _)
   | (with_reducible exact spec_l1Has.mono _ _ _)
   | (with_reducible exact spec_l2Set.mono _ _ _ _)
   | (with_reducible exact spec_l4At.mono _ _ _)
   | (with_reducible exact LeO.refl _)
   | (with_reducible exact LeO.none _)
   | (with_reducible refine LeO.ite ?_ ?_)
   | (with_reducible refine LeO.bind ?_ (fun _ => ?_))
   | exact ih0 _ _ _ _ _ _ _
   | exact ih1 _ _ _ _
   | exact spec_l10Answers.mono _ _ _ _ _ _ _
   | exact spec_l10Sets.mono _ _ _ _
   | exact spec_l1Has.mono _ _ _
   | exact spec_l2Set.mono _ _ _ _
   | exact spec_l4At.mono _ _ _
   | exact LeO.none _
   | refine LeO.ite ?_ ?_
   | refine LeO.bind ?_ (fun _ => ?_)
  ·intro y0 y1 y2 y3
   unfold spec_GuardAnswers.l0
   repeat' first
   | (with_reducible exact ih0 _ _ _ _ _ _ _)
   | (with_reducible exact ih1 _ _ _ _)
   | (with_reducible exact spec_l10Answers.mono _ _ _ _ _ _ _)
   | (with_reducible exact spec_l10Sets.mono _ _ _ _)
   | (with_reducible exact spec_l1Has.mono _ _ _)
   | (with_reducible exact spec_l2Set.mono _ _ _ _)
   | (with_reducible exact spec_l4At.mono _ _ _)
   | (with_reducible exact LeO.refl _)
   | (with_reducible exact LeO.none _)
   | (with_reducible refine LeO.ite ?_ ?_)
   | (with_reducible refine LeO.bind ?_ (fun _ => ?_))
   | exact ih0 _ _ _ _ _ _ _
   | exact ih1 _ _ _ _
   | exact spec_l10Answers.mono _ _ _ _ _ _ _
   | exact spec_l10Sets.mono _ _ _ _
   | exact spec_l1Has.mono _ _ _
   | exact spec_l2Set.mono _ _ _ _
   | exact spec_l4At.mono _ _ _
   | exact LeO.none _
   | refine LeO.ite ?_ ?_
   | refine LeO.bind ?_ (fun _ => ?_)
theorem spec_GuardAnswers.mono : ∀ a0 a1 a2 a3 a4 k, LeO (spec_GuardAnswers.f k a0 a1 a2 a3 a4) (spec_GuardAnswers.f (k + 1) a0 a1 a2 a3 a4) := by
 intro a0 a1 a2 a3 a4 k
 obtain ⟨ih0, ih1⟩ := spec_GuardAnswers.mono_l k
 unfold spec_GuardAnswers.f
 repeat' first
   | (with_reducible exact ih0 _ _ _ _ _ _ _)
   | (with_reducible exact ih1 _ _ _ _)
   | (with_reducible exact spec_l10Answers.mono _ _ _ _ _ _ _)
   | (with_reducible exact spec_l10Sets.mono _ _ _ _)
   | (with_reducible exact spec_l1Has.mono _ _ _)
   | (with_reducible exact spec_l2Set.mono _ _ _ _)
   | (with_reducible exact spec_l4At.mono _ _ _)
   | (with_reducible exact LeO.refl _)
   | (with_reducible exact LeO.none _)
   | (with_reducible refine LeO.ite ?_ ?_)
   | (with_reducible refine LeO.bind ?_ (fun _ => ?_))
   | exact ih0 _ _ _ _ _ _ _
   | exact ih1 _ _ _ _
   | exact spec_l10Answers.mono _ _ _ _ _ _ _
   | exact spec_l10Sets.mono _ _ _ _
   | exact spec_l1Has.mono _ _ _
   | exact spec_l2Set.mono _ _ _ _
   | exact spec_l4At.mono _ _ _
   | exact LeO.none _
   | refine LeO.ite ?_ ?_
   | refine LeO.bind ?_ (fun _ => ?_)
def spec_GuardAnswers.T5 : Bool × List (List Nat × List Nat) := (true, [([], []), ([], []), ([], []), ([], []), ([2, 3], [2, 3]), ([], []), ([], []), ([0, 1, 4, 5, 6, 4], [0, 1, 4, 5, 6]), ([7, 7, 0, 1, 2, 3, 4, 5, 6, 7], [7])])
def spec_GuardAnswers.B5 : List Nat := [0, 0, 0, 0, 12, 0, 0, 127, 255]
theorem spec_GuardAnswers.tab5 : rtab .any (opsOf Tryd.f36 5) = spec_GuardAnswers.T5 := by kernel_rfl
theorem spec_GuardAnswers.bits5 : waitsOk spec_GuardAnswers.T5.2 spec_GuardAnswers.B5 = true := by kernel_rfl
set_option maxHeartbeats 8000000 in
set_option maxRecDepth 100000 in
theorem spec_GuardAnswers.calls (k : Nat) (a0_0 : Int) (A0_1 : Option Addr) (c0_1 : Nat) (l0_1 : List (S92)) (A1 : Option Addr) (c1 : Nat) (l1 : List Int) (a2 : Int) (a3 : Bool) (r1 : List (List Int)) (r2 : Bool) (w : World) (hr0_1 : Kd.C k92 w A0_1 l0_1.length l0_1) (hc0_1 : l0_1.length ≤ c0_1) (hr1 : Kd.C (Kd.int .i64) w A1 l1.length l1) (hc1 : l1.length ≤ c1) (h : spec_GuardAnswers.f k a0_0 l0_1 l1 a2 a3 = some (r1, r2)) :
  Calls Tryd.prog 36 #[.agg #[.int .i64 a0_0, .slice A0_1 l0_1.length c0_1], .slice A1 l1.length c1, .int .i64 a2, .bool a3] w fun e w' => ∃ v0_ : Value, e = .returned (.tuple #[v0_, .bool r2]) ∧ Kd.N (Kd.slice 3 (Kd.int .i64)) 32 w' w.heap.size (fun k_ => (w.heap.size ≤ k_)) v0_ r1 ∧ Below w.heap.size w w' := by
 have hu28 := Tryd.underlying28
 have HR0_1 := Aside0.mk hr0_1
 have HC0_1 := Aside0.mk hc0_1
 clear hr0_1 hc0_1
 have HR1 := Aside0.mk hr1
 have HC1 := Aside0.mk hc1
 clear hr1 hc1
 have HB := Aside0.mk (Below.refl w.heap.size w)
 have H : ((some (([] : List (List Int)) : List (List Int))).bind fun y277 => ((spec_l2Good.f a0_0 l0_1).bind fun t280 => (if t280 = true then ((spec_l2Set.f k a0_0 l0_1 l1).bind fun t281 => (if t281 = true then ((spec_l2Node.f a0_0 l0_1 a2).bind fun t282 => (if t282 = true then ((spec_l1Has.f k l1 a2).bind fun t283 => (spec_GuardAnswers.j0 k l1 a2 a3 y277 t283 a0_0 l0_1)) else (spec_GuardAnswers.j0 k l1 a2 a3 y277 true a0_0 l0_1))) else (spec_GuardAnswers.j0 k l1 a2 a3 y277 true a0_0 l0_1))) else (spec_GuardAnswers.j0 k l1 a2 a3 y277 true a0_0 l0_1)))) = some (r1, r2) := h
 clear h
 obtain ⟨y277, hy277⟩ : ∃ y_ : List (List Int), y_ = (([] : List (List Int))) := ⟨_, rfl⟩
 replace H : ((spec_l2Good.f a0_0 l0_1).bind fun t280 => (if t280 = true then ((spec_l2Set.f k a0_0 l0_1 l1).bind fun t281 => (if t281 = true then ((spec_l2Node.f a0_0 l0_1 a2).bind fun t282 => (if t282 = true then ((spec_l1Has.f k l1 a2).bind fun t283 => (spec_GuardAnswers.j0 k l1 a2 a3 y277 t283 a0_0 l0_1)) else (spec_GuardAnswers.j0 k l1 a2 a3 y277 true a0_0 l0_1))) else (spec_GuardAnswers.j0 k l1 a2 a3 y277 true a0_0 l0_1))) else (spec_GuardAnswers.j0 k l1 a2 a3 y277 true a0_0 l0_1))) = some (r1, r2) := by first | (rw [hy277];with_reducible exact H) | (have H2_ := (Option.bind_some _ _).symm.trans H;rw [hy277];with_reducible exact H2_) | (have H2_ := (Option.bind_some _ _).symm.trans H;with_reducible exact H2_) | with_reducible exact H | (rw [hy277];exact H) | exact H
 have Ny277 := Aside0.mk hy277
 clear hy277
 have HC5 := Aside0.mk H
 clear H
 go_enter Tryd.func36, Tryd.ntmps36
 go_upto_region 2 with (first | ((with_reducible refine gate_dst (N := 4) rfl ?_);refine box_event ?hg (N := 4) ?hd (cs := #[.int .i64 a0_0, .slice A0_1 l0_1.length c0_1]) (t := 28) ?hr ?_;(case hd => rfl);(case hg => rfl);(case hr => first | (go_simp;done) | (go_simp;rfl));intro gb276 hg w6 hbox hb;have n0_ := Aside0.mk (below_step (by exact bB) hb);have n1_ := Aside0.mk (hbox);have n2_ := Aside0.mk ((by rw [hg];exact (below_size (by exact bB)) : w.heap.size ≤ gb276));have n3_ := Aside0.mk ((by rw [hg];exact (below_size (by exact bB)) : w.heap.size ≤ gb276));clear HB;have HB := n0_;have BK276 := n1_;have GW276 := n2_;have GE276 := n3_;clear n0_ n1_ n2_ n3_;clear hb hbox hg) | ((with_reducible refine gate_dst (N := 14) rfl ?_);refine Kd.N_lit (Kd.slice 3 (Kd.int .i64)) _ 32 ?hg (N' := 14) ?hd (xs := ([] : List (List Int))) (inner := []) (ok := (fun k_ => (w.heap.size ≤ k_) ∧ k_ ≠ gb276)) (okp := (fun k_ => (w.heap.size ≤ k_) ∧ k_ ≠ gb276)) ?hr ?hp (fun _ hk => hk) ((show ∀ k_, w6.heap.size ≤ k_ → (fun k_ => (w.heap.size ≤ k_) ∧ k_ ≠ gb276) k_ from fun k_ hk => ⟨(Nat.le_trans (below_size (by exact bB)) hk), Kd.freshB (g := gb276) (o := .cells #[.int .i64 a0_0, .slice A0_1 l0_1.length c0_1] 28 (0, 0)) (by exact kP BK276.out) k_ hk⟩) _ (Nat.le_refl _)) (Below.refl _ _) (Nat.le_refl _) (by simp) ?_;(case hd => rfl);(case hg => rfl);(case hr => first | (go_simp;done) | (go_simp;rfl));(case hp => exact (Reps.none _ _));intro v278 w7 ho8 hb hg_ hnew_;clear hg_ hnew_;(first | rw [← Ny277.out] at ho8 | (simp only [Int.reduceToNat] at ho8;rw [← Ny277.out] at ho8));have n0_ := Aside0.mk (Kd.N_lower ho8 (below_size (by exact bB)));have n1_ := Aside0.mk (blk_below (g := gb276) (o := .cells #[.int .i64 a0_0, .slice A0_1 l0_1.length c0_1] 28 (0, 0)) (by exact kP BK276.out) hb);have n2_ := Aside0.mk (below_step (by exact bB) hb);clear BK276;clear HB;have HO279 := n0_;have BK276 := n1_;have HB := n2_;clear n0_ n1_ n2_;clear hb ho8))
 (try simp only [Act.put, List.setIfInBounds_toArray, List.set_cons_zero, List.set_cons_succ])
 go_cut [34] (fun v34 wc => ∃ (kq : Nat) (x34_4 : Bool), v34 = .bool x34_4 ∧ Aside0 (spec_GuardAnswers.j0 kq l1 a2 a3 y277 x34_4 a0_0 l0_1 = some (r1, r2)) ∧ Aside0 (kq ≤ k) ∧ Aside0 (Kd.N (Kd.slice 3 (Kd.int .i64)) 32 wc w.heap.size (fun k_ => (w.heap.size ≤ k_) ∧ k_ ≠ gb276) v278 y277) ∧ Aside0 (wc.heap[gb276]? = some (.cells #[.int .i64 a0_0, (.slice A0_1 l0_1.length c0_1)] 28 (0, 0))) ∧ Aside0 (Below w.heap.size w wc))
 case first =>
  have H := HC5.out
  clear HC5
  replace H := Option.bind_eq_some_iff.mp H
  obtain ⟨t280, A90, H⟩ := H
  replace H : (if t280 = true then ((spec_l2Set.f k a0_0 l0_1 l1).bind fun t281 => (if t281 = true then ((spec_l2Node.f a0_0 l0_1 a2).bind fun t282 => (if t282 = true then ((spec_l1Has.f k l1 a2).bind fun t283 => (spec_GuardAnswers.j0 k l1 a2 a3 y277 t283 a0_0 l0_1)) else (spec_GuardAnswers.j0 k l1 a2 a3 y277 true a0_0 l0_1))) else (spec_GuardAnswers.j0 k l1 a2 a3 y277 true a0_0 l0_1))) else (spec_GuardAnswers.j0 k l1 a2 a3 y277 true a0_0 l0_1)) = some (r1, r2) := H
  have A9 := Aside0.mk A90
  clear A90
  by_cases c10 : t280 = true
  ·subst c10
   have H1 : ((spec_l2Set.f k a0_0 l0_1 l1).bind fun t281 => (if t281 = true then ((spec_l2Node.f a0_0 l0_1 a2).bind fun t282 => (if t282 = true then ((spec_l1Has.f k l1 a2).bind fun t283 => (spec_GuardAnswers.j0 k l1 a2 a3 y277 t283 a0_0 l0_1)) else (spec_GuardAnswers.j0 k l1 a2 a3 y277 true a0_0 l0_1))) else (spec_GuardAnswers.j0 k l1 a2 a3 y277 true a0_0 l0_1))) = some (r1, r2) := by rw [if_pos rfl] at H;exact H
   clear H
   have H := H1
   clear H1
   replace H := Option.bind_eq_some_iff.mp H
   obtain ⟨t281, A110, H⟩ := H
   replace H : (if t281 = true then ((spec_l2Node.f a0_0 l0_1 a2).bind fun t282 => (if t282 = true then ((spec_l1Has.f k l1 a2).bind fun t283 => (spec_GuardAnswers.j0 k l1 a2 a3 y277 t283 a0_0 l0_1)) else (spec_GuardAnswers.j0 k l1 a2 a3 y277 true a0_0 l0_1))) else (spec_GuardAnswers.j0 k l1 a2 a3 y277 true a0_0 l0_1)) = some (r1, r2) := H
   have A11 := Aside0.mk A110
   clear A110
   by_cases c12 : t281 = true
   ·subst c12
    have H1 : ((spec_l2Node.f a0_0 l0_1 a2).bind fun t282 => (if t282 = true then ((spec_l1Has.f k l1 a2).bind fun t283 => (spec_GuardAnswers.j0 k l1 a2 a3 y277 t283 a0_0 l0_1)) else (spec_GuardAnswers.j0 k l1 a2 a3 y277 true a0_0 l0_1))) = some (r1, r2) := by rw [if_pos rfl] at H;exact H
    clear H
    have H := H1
    clear H1
    replace H := Option.bind_eq_some_iff.mp H
    obtain ⟨t282, A130, H⟩ := H
    replace H : (if t282 = true then ((spec_l1Has.f k l1 a2).bind fun t283 => (spec_GuardAnswers.j0 k l1 a2 a3 y277 t283 a0_0 l0_1)) else (spec_GuardAnswers.j0 k l1 a2 a3 y277 true a0_0 l0_1)) = some (r1, r2) := H
    have A13 := Aside0.mk A130
    clear A130
    by_cases c14 : t282 = true
    ·subst c14
     have H1 : ((spec_l1Has.f k l1 a2).bind fun t283 => (spec_GuardAnswers.j0 k l1 a2 a3 y277 t283 a0_0 l0_1)) = some (r1, r2) := by rw [if_pos rfl] at H;exact H
     clear H
     have H := H1
     clear H1
     replace H := Option.bind_eq_some_iff.mp H
     obtain ⟨t283, A150, H⟩ := H
     replace H : (spec_GuardAnswers.j0 k l1 a2 a3 y277 t283 a0_0 l0_1) = some (r1, r2) := H
     have A15 := Aside0.mk A150
     clear A150
     have H' := Aside0.mk H
     clear H
     have hcz16_0 : w7.cell? ⟨gb276, 0, none⟩ = some (.int .i64 a0_0) := (blk_cell BK276.out 0).trans rfl
     have hcz16_1 : w7.cell? ⟨gb276, 1, none⟩ = some (.slice A0_1 l0_1.length c0_1) := (blk_cell BK276.out 1).trans rfl
     have hfz16_0 := blk_frozen BK276.out 0
     have hfz16_1 := blk_frozen BK276.out 1
     go_wp2_with (first | ((with_reducible refine gate_callee (f := 41) rfl ?_);refine goesL_ (some 16) rfl rfl Tryd.func41 (by kernel_rfl) rfl #[.agg #[.int .i64 a0_0, .slice A0_1 l0_1.length c0_1]] rfl mM ?_;(with_reducible refine (spec_l2Good.calls a0_0 _ _ l0_1 true _ ?side1 ?side2 A9.out).mono ?_);(case side1 => exact cP (Kd.C_below HR0_1.out HB.out));(case side2 => exact HC0_1.out);rintro e w17 ⟨rfl, hb⟩;refine ⟨_, rfl, ?_⟩;have n0_ := Aside0.mk (Kd.N_below (by (with_reducible repeat (first | apply Kd.N_alloc | apply Kd.N_drewN | apply Kd.N_drew));exact HO279.out) hb);have n1_ := Aside0.mk (blk_below (g := gb276) (o := .cells #[.int .i64 a0_0, .slice A0_1 l0_1.length c0_1] 28 (0, 0)) (by exact kP BK276.out) hb);have n2_ := Aside0.mk (below_step (by exact bB) hb);clear HO279;clear BK276;clear HB;have HO279 := n0_;have BK276 := n1_;have HB := n2_;clear n0_ n1_ n2_;(try clear hb);(try clear hb2);(try clear hk);(try clear hi);have hcz18_0 : w17.cell? ⟨gb276, 0, none⟩ = some (.int .i64 a0_0) := (blk_cell BK276.out 0).trans rfl;have hcz18_1 : w17.cell? ⟨gb276, 1, none⟩ = some (.slice A0_1 l0_1.length c0_1) := (blk_cell BK276.out 1).trans rfl;have hfz18_0 := blk_frozen BK276.out 0;have hfz18_1 := blk_frozen BK276.out 1) | (go_at_call 50;(with_reducible refine (spec_l2Set.calls k a0_0 _ _ l0_1 _ _ l1 true _ ?side1 ?side2 ?side3 ?side4 A11.out).mono ?_);(case side1 => exact cP (Kd.C_below HR0_1.out HB.out));(case side2 => exact HC0_1.out);(case side3 => exact cP (Kd.C_below HR1.out HB.out));(case side4 => exact HC1.out);rintro e w19 ⟨rfl, hb⟩;have n0_ := Aside0.mk (Kd.N_below (by (with_reducible repeat (first | apply Kd.N_alloc | apply Kd.N_drewN | apply Kd.N_drew));exact HO279.out) hb);have n1_ := Aside0.mk (blk_below (g := gb276) (o := .cells #[.int .i64 a0_0, .slice A0_1 l0_1.length c0_1] 28 (0, 0)) (by exact kP BK276.out) hb);have n2_ := Aside0.mk (below_step (by exact bB) hb);clear HO279;clear BK276;clear HB;have HO279 := n0_;have BK276 := n1_;have HB := n2_;clear n0_ n1_ n2_;(try clear hb);(try clear hb2);(try clear hk);(try clear hi);have hcz20_0 : w19.cell? ⟨gb276, 0, none⟩ = some (.int .i64 a0_0) := (blk_cell BK276.out 0).trans rfl;have hcz20_1 : w19.cell? ⟨gb276, 1, none⟩ = some (.slice A0_1 l0_1.length c0_1) := (blk_cell BK276.out 1).trans rfl;have hfz20_0 := blk_frozen BK276.out 0;have hfz20_1 := blk_frozen BK276.out 1) | (go_at_call 68;(with_reducible refine (spec_l2Node.calls a0_0 _ _ l0_1 a2 true _ ?side1 ?side2 A13.out).mono ?_);(case side1 => exact cP (Kd.C_below HR0_1.out HB.out));(case side2 => exact HC0_1.out);rintro e w21 ⟨rfl, hb⟩;have n0_ := Aside0.mk (Kd.N_below (by (with_reducible repeat (first | apply Kd.N_alloc | apply Kd.N_drewN | apply Kd.N_drew));exact HO279.out) hb);have n1_ := Aside0.mk (blk_below (g := gb276) (o := .cells #[.int .i64 a0_0, .slice A0_1 l0_1.length c0_1] 28 (0, 0)) (by exact kP BK276.out) hb);have n2_ := Aside0.mk (below_step (by exact bB) hb);clear HO279;clear BK276;clear HB;have HO279 := n0_;have BK276 := n1_;have HB := n2_;clear n0_ n1_ n2_;(try clear hb);(try clear hb2);(try clear hk);(try clear hi)) | (go_at_call 69;(with_reducible refine (spec_l1Has.calls k _ _ l1 a2 t283 _ ?side1 ?side2 A15.out).mono ?_);(case side1 => exact cP (Kd.C_below HR1.out HB.out));(case side2 => exact HC1.out);rintro e w' ⟨rfl, ⟨nd, rfl⟩⟩))
     go_meet
     case rel => exact ⟨_, (t283), (by first | rfl | (simp;done) | (simp [*];done)), H', ⟨by first | omega | exact Nat.le_refl _⟩, ⟨by (with_reducible repeat (first | apply Kd.N_alloc | apply Kd.N_drewN | apply Kd.N_drew));exact HO279.out⟩, ⟨by exact kP BK276.out⟩, ⟨by exact bB⟩⟩
    ·replace c14 := Bool.eq_false_iff.mpr c14
     subst c14
     have H1 : (spec_GuardAnswers.j0 k l1 a2 a3 y277 true a0_0 l0_1) = some (r1, r2) := by rw [if_neg (show ¬ (false = true) by decide)] at H;exact H
     clear H
     have H := H1
     clear H1
     have H' := Aside0.mk H
     clear H
     have hcz22_0 : w7.cell? ⟨gb276, 0, none⟩ = some (.int .i64 a0_0) := (blk_cell BK276.out 0).trans rfl
     have hcz22_1 : w7.cell? ⟨gb276, 1, none⟩ = some (.slice A0_1 l0_1.length c0_1) := (blk_cell BK276.out 1).trans rfl
     have hfz22_0 := blk_frozen BK276.out 0
     have hfz22_1 := blk_frozen BK276.out 1
     go_wp2_with (first | ((with_reducible refine gate_callee (f := 41) rfl ?_);refine goesL_ (some 16) rfl rfl Tryd.func41 (by kernel_rfl) rfl #[.agg #[.int .i64 a0_0, .slice A0_1 l0_1.length c0_1]] rfl mM ?_;(with_reducible refine (spec_l2Good.calls a0_0 _ _ l0_1 true _ ?side1 ?side2 A9.out).mono ?_);(case side1 => exact cP (Kd.C_below HR0_1.out HB.out));(case side2 => exact HC0_1.out);rintro e w23 ⟨rfl, hb⟩;refine ⟨_, rfl, ?_⟩;have n0_ := Aside0.mk (Kd.N_below (by (with_reducible repeat (first | apply Kd.N_alloc | apply Kd.N_drewN | apply Kd.N_drew));exact HO279.out) hb);have n1_ := Aside0.mk (blk_below (g := gb276) (o := .cells #[.int .i64 a0_0, .slice A0_1 l0_1.length c0_1] 28 (0, 0)) (by exact kP BK276.out) hb);have n2_ := Aside0.mk (below_step (by exact bB) hb);clear HO279;clear BK276;clear HB;have HO279 := n0_;have BK276 := n1_;have HB := n2_;clear n0_ n1_ n2_;(try clear hb);(try clear hb2);(try clear hk);(try clear hi);have hcz24_0 : w23.cell? ⟨gb276, 0, none⟩ = some (.int .i64 a0_0) := (blk_cell BK276.out 0).trans rfl;have hcz24_1 : w23.cell? ⟨gb276, 1, none⟩ = some (.slice A0_1 l0_1.length c0_1) := (blk_cell BK276.out 1).trans rfl;have hfz24_0 := blk_frozen BK276.out 0;have hfz24_1 := blk_frozen BK276.out 1) | (go_at_call 50;(with_reducible refine (spec_l2Set.calls k a0_0 _ _ l0_1 _ _ l1 true _ ?side1 ?side2 ?side3 ?side4 A11.out).mono ?_);(case side1 => exact cP (Kd.C_below HR0_1.out HB.out));(case side2 => exact HC0_1.out);(case side3 => exact cP (Kd.C_below HR1.out HB.out));(case side4 => exact HC1.out);rintro e w25 ⟨rfl, hb⟩;have n0_ := Aside0.mk (Kd.N_below (by (with_reducible repeat (first | apply Kd.N_alloc | apply Kd.N_drewN | apply Kd.N_drew));exact HO279.out) hb);have n1_ := Aside0.mk (blk_below (g := gb276) (o := .cells #[.int .i64 a0_0, .slice A0_1 l0_1.length c0_1] 28 (0, 0)) (by exact kP BK276.out) hb);have n2_ := Aside0.mk (below_step (by exact bB) hb);clear HO279;clear BK276;clear HB;have HO279 := n0_;have BK276 := n1_;have HB := n2_;clear n0_ n1_ n2_;(try clear hb);(try clear hb2);(try clear hk);(try clear hi);have hcz26_0 : w25.cell? ⟨gb276, 0, none⟩ = some (.int .i64 a0_0) := (blk_cell BK276.out 0).trans rfl;have hcz26_1 : w25.cell? ⟨gb276, 1, none⟩ = some (.slice A0_1 l0_1.length c0_1) := (blk_cell BK276.out 1).trans rfl;have hfz26_0 := blk_frozen BK276.out 0;have hfz26_1 := blk_frozen BK276.out 1) | (go_at_call 68;(with_reducible refine (spec_l2Node.calls a0_0 _ _ l0_1 a2 false _ ?side1 ?side2 A13.out).mono ?_);(case side1 => exact cP (Kd.C_below HR0_1.out HB.out));(case side2 => exact HC0_1.out);rintro e w27 ⟨rfl, hb⟩;have n0_ := Aside0.mk (Kd.N_below (by (with_reducible repeat (first | apply Kd.N_alloc | apply Kd.N_drewN | apply Kd.N_drew));exact HO279.out) hb);have n1_ := Aside0.mk (blk_below (g := gb276) (o := .cells #[.int .i64 a0_0, .slice A0_1 l0_1.length c0_1] 28 (0, 0)) (by exact kP BK276.out) hb);have n2_ := Aside0.mk (below_step (by exact bB) hb);clear HO279;clear BK276;clear HB;have HO279 := n0_;have BK276 := n1_;have HB := n2_;clear n0_ n1_ n2_;(try clear hb);(try clear hb2);(try clear hk);(try clear hi)))
     go_meet
     case rel => exact ⟨_, (true), (by first | rfl | (simp;done) | (simp [*];done)), H', ⟨by first | omega | exact Nat.le_refl _⟩, ⟨by (with_reducible repeat (first | apply Kd.N_alloc | apply Kd.N_drewN | apply Kd.N_drew));exact HO279.out⟩, ⟨by exact kP BK276.out⟩, ⟨by exact bB⟩⟩
   ·replace c12 := Bool.eq_false_iff.mpr c12
    subst c12
    have H1 : (spec_GuardAnswers.j0 k l1 a2 a3 y277 true a0_0 l0_1) = some (r1, r2) := by rw [if_neg (show ¬ (false = true) by decide)] at H;exact H
    clear H
    have H := H1
    clear H1
    have H' := Aside0.mk H
    clear H
    have hcz28_0 : w7.cell? ⟨gb276, 0, none⟩ = some (.int .i64 a0_0) := (blk_cell BK276.out 0).trans rfl
    have hcz28_1 : w7.cell? ⟨gb276, 1, none⟩ = some (.slice A0_1 l0_1.length c0_1) := (blk_cell BK276.out 1).trans rfl
    have hfz28_0 := blk_frozen BK276.out 0
    have hfz28_1 := blk_frozen BK276.out 1
    go_wp2_with (first | ((with_reducible refine gate_callee (f := 41) rfl ?_);refine goesL_ (some 16) rfl rfl Tryd.func41 (by kernel_rfl) rfl #[.agg #[.int .i64 a0_0, .slice A0_1 l0_1.length c0_1]] rfl mM ?_;(with_reducible refine (spec_l2Good.calls a0_0 _ _ l0_1 true _ ?side1 ?side2 A9.out).mono ?_);(case side1 => exact cP (Kd.C_below HR0_1.out HB.out));(case side2 => exact HC0_1.out);rintro e w29 ⟨rfl, hb⟩;refine ⟨_, rfl, ?_⟩;have n0_ := Aside0.mk (Kd.N_below (by (with_reducible repeat (first | apply Kd.N_alloc | apply Kd.N_drewN | apply Kd.N_drew));exact HO279.out) hb);have n1_ := Aside0.mk (blk_below (g := gb276) (o := .cells #[.int .i64 a0_0, .slice A0_1 l0_1.length c0_1] 28 (0, 0)) (by exact kP BK276.out) hb);have n2_ := Aside0.mk (below_step (by exact bB) hb);clear HO279;clear BK276;clear HB;have HO279 := n0_;have BK276 := n1_;have HB := n2_;clear n0_ n1_ n2_;(try clear hb);(try clear hb2);(try clear hk);(try clear hi);have hcz30_0 : w29.cell? ⟨gb276, 0, none⟩ = some (.int .i64 a0_0) := (blk_cell BK276.out 0).trans rfl;have hcz30_1 : w29.cell? ⟨gb276, 1, none⟩ = some (.slice A0_1 l0_1.length c0_1) := (blk_cell BK276.out 1).trans rfl;have hfz30_0 := blk_frozen BK276.out 0;have hfz30_1 := blk_frozen BK276.out 1) | (go_at_call 50;(with_reducible refine (spec_l2Set.calls k a0_0 _ _ l0_1 _ _ l1 false _ ?side1 ?side2 ?side3 ?side4 A11.out).mono ?_);(case side1 => exact cP (Kd.C_below HR0_1.out HB.out));(case side2 => exact HC0_1.out);(case side3 => exact cP (Kd.C_below HR1.out HB.out));(case side4 => exact HC1.out);rintro e w31 ⟨rfl, hb⟩;have n0_ := Aside0.mk (Kd.N_below (by (with_reducible repeat (first | apply Kd.N_alloc | apply Kd.N_drewN | apply Kd.N_drew));exact HO279.out) hb);have n1_ := Aside0.mk (blk_below (g := gb276) (o := .cells #[.int .i64 a0_0, .slice A0_1 l0_1.length c0_1] 28 (0, 0)) (by exact kP BK276.out) hb);have n2_ := Aside0.mk (below_step (by exact bB) hb);clear HO279;clear BK276;clear HB;have HO279 := n0_;have BK276 := n1_;have HB := n2_;clear n0_ n1_ n2_;(try clear hb);(try clear hb2);(try clear hk);(try clear hi)))
    go_meet
    case rel => exact ⟨_, (true), (by first | rfl | (simp;done) | (simp [*];done)), H', ⟨by first | omega | exact Nat.le_refl _⟩, ⟨by (with_reducible repeat (first | apply Kd.N_alloc | apply Kd.N_drewN | apply Kd.N_drew));exact HO279.out⟩, ⟨by exact kP BK276.out⟩, ⟨by exact bB⟩⟩
  ·replace c10 := Bool.eq_false_iff.mpr c10
   subst c10
   have H1 : (spec_GuardAnswers.j0 k l1 a2 a3 y277 true a0_0 l0_1) = some (r1, r2) := by rw [if_neg (show ¬ (false = true) by decide)] at H;exact H
   clear H
   have H := H1
   clear H1
   have H' := Aside0.mk H
   clear H
   have hcz32_0 : w7.cell? ⟨gb276, 0, none⟩ = some (.int .i64 a0_0) := (blk_cell BK276.out 0).trans rfl
   have hcz32_1 : w7.cell? ⟨gb276, 1, none⟩ = some (.slice A0_1 l0_1.length c0_1) := (blk_cell BK276.out 1).trans rfl
   have hfz32_0 := blk_frozen BK276.out 0
   have hfz32_1 := blk_frozen BK276.out 1
   go_wp2_with (first | ((with_reducible refine gate_callee (f := 41) rfl ?_);refine goesL_ (some 16) rfl rfl Tryd.func41 (by kernel_rfl) rfl #[.agg #[.int .i64 a0_0, .slice A0_1 l0_1.length c0_1]] rfl mM ?_;(with_reducible refine (spec_l2Good.calls a0_0 _ _ l0_1 false _ ?side1 ?side2 A9.out).mono ?_);(case side1 => exact cP (Kd.C_below HR0_1.out HB.out));(case side2 => exact HC0_1.out);rintro e w33 ⟨rfl, hb⟩;refine ⟨_, rfl, ?_⟩;have n0_ := Aside0.mk (Kd.N_below (by (with_reducible repeat (first | apply Kd.N_alloc | apply Kd.N_drewN | apply Kd.N_drew));exact HO279.out) hb);have n1_ := Aside0.mk (blk_below (g := gb276) (o := .cells #[.int .i64 a0_0, .slice A0_1 l0_1.length c0_1] 28 (0, 0)) (by exact kP BK276.out) hb);have n2_ := Aside0.mk (below_step (by exact bB) hb);clear HO279;clear BK276;clear HB;have HO279 := n0_;have BK276 := n1_;have HB := n2_;clear n0_ n1_ n2_;(try clear hb);(try clear hb2);(try clear hk);(try clear hi)))
   go_meet
   case rel => exact ⟨_, (true), (by first | rfl | (simp;done) | (simp [*];done)), H', ⟨by first | omega | exact Nat.le_refl _⟩, ⟨by (with_reducible repeat (first | apply Kd.N_alloc | apply Kd.N_drewN | apply Kd.N_drew));exact HO279.out⟩, ⟨by exact kP BK276.out⟩, ⟨by exact bB⟩⟩
 case rest =>
  clear HC5
  try clear c1
  try clear p2
  try clear c3
  try clear c4
  try clear c10
  try clear c12
  try clear c14
  try clear hcz16_0
  try clear hcz16_1
  try clear hcz18_0
  try clear hcz18_1
  try clear hcz20_0
  try clear hcz20_1
  try clear hcz22_0
  try clear hcz22_1
  try clear hcz24_0
  try clear hcz24_1
  try clear hcz26_0
  try clear hcz26_1
  try clear hcz28_0
  try clear hcz28_1
  try clear hcz30_0
  try clear hcz30_1
  try clear hcz32_0
  try clear hcz32_1
  try clear hfz16_0
  try clear hfz16_1
  try clear hfz18_0
  try clear hfz18_1
  try clear hfz20_0
  try clear hfz20_1
  try clear hfz22_0
  try clear hfz22_1
  try clear hfz24_0
  try clear hfz24_1
  try clear hfz26_0
  try clear hfz26_1
  try clear hfz28_0
  try clear hfz28_1
  try clear hfz30_0
  try clear hfz30_1
  try clear hfz32_0
  try clear hfz32_1
  obtain ⟨kq, x34_4, rfl, HA, HJ4, HO_10, BK276, HB⟩ := hcut
  cases kq with
  | zero => exact absurd HA.out (by simp [spec_GuardAnswers.j0])
  | succ kj4 =>
   have H := HA.out
   clear HA
   simp only [spec_GuardAnswers.j0] at H
   by_cases c34 : x34_4 = true
   ·subst c34
    have H1 : (some (y277, false)) = some (r1, r2) := by rw [if_pos rfl] at H;exact H
    clear H
    have H := H1
    clear H1
    simp only [Option.some.injEq, Prod.mk.injEq] at H
    obtain ⟨rfl, rfl⟩ := H
    go_wp2
    go_ret2
    exact ⟨_, by first | rfl | (simp [errW_none, errW_some] <;> rfl) | (simp [*, errW_none, errW_some] <;> rfl), by (with_reducible repeat (first | apply Kd.N_alloc | apply Kd.N_drewN | apply Kd.N_drew));exact Kd.N_mono HO_10.out (fun _ hk => hk.1), by exact bB⟩
   ·replace c34 := Bool.eq_false_iff.mpr c34
    subst c34
    have H1 : ((spec_l10Sets.f kj4 a0_0 l0_1 (l1.length : Int)).bind fun t284 => ((spec_l4At.f kj4 t284 l1).bind fun t287 => ((spec_l10Answers.f kj4 a0_0 l0_1 t284 t287 a2 a3).bind fun t288 => (spec_GuardAnswers.l0 kj4 y277 t284 t288 0)))) = some (r1, r2) := by rw [if_neg (show ¬ (false = true) by decide)] at H;exact H
    clear H
    have H := H1
    clear H1
    replace H := Option.bind_eq_some_iff.mp H
    obtain ⟨t284, A350, H⟩ := H
    replace H : ((spec_l4At.f kj4 t284 l1).bind fun t287 => ((spec_l10Answers.f kj4 a0_0 l0_1 t284 t287 a2 a3).bind fun t288 => (spec_GuardAnswers.l0 kj4 y277 t284 t288 0))) = some (r1, r2) := H
    have A35 := Aside0.mk A350
    clear A350
    replace H := Option.bind_eq_some_iff.mp H
    obtain ⟨t287, A360, H⟩ := H
    replace H : ((spec_l10Answers.f kj4 a0_0 l0_1 t284 t287 a2 a3).bind fun t288 => (spec_GuardAnswers.l0 kj4 y277 t284 t288 0)) = some (r1, r2) := H
    have A36 := Aside0.mk A360
    clear A360
    replace H := Option.bind_eq_some_iff.mp H
    obtain ⟨t288, A370, H⟩ := H
    replace H : (spec_GuardAnswers.l0 kj4 y277 t284 t288 0) = some (r1, r2) := H
    have A37 := Aside0.mk A370
    clear A370
    have H' := Aside0.mk H
    clear H
    have hcz38_0 : wc.cell? ⟨gb276, 0, none⟩ = some (.int .i64 a0_0) := (blk_cell BK276.out 0).trans rfl
    have hcz38_1 : wc.cell? ⟨gb276, 1, none⟩ = some (.slice A0_1 l0_1.length c0_1) := (blk_cell BK276.out 1).trans rfl
    have hfz38_0 := blk_frozen BK276.out 0
    have hfz38_1 := blk_frozen BK276.out 1
    try go_wp2_with (first | ((with_reducible refine gate_callee (f := 70) rfl ?_);refine goesL_ (some 39) rfl rfl Tryd.func70 (by kernel_rfl) rfl #[.agg #[.int .i64 a0_0, .slice A0_1 l0_1.length c0_1], .int .i64 (l1.length : Int)] rfl mM ?_;(with_reducible refine (spec_l10Sets.calls kj4 a0_0 _ _ l0_1 (l1.length : Int) t284 _ ?side1 ?side2 A35.out).mono ?_);(case side1 => exact cP (Kd.C_below HR0_1.out HB.out));(case side2 => exact HC0_1.out);rintro e w39 ⟨v285, rfl, ho0, hb⟩;refine ⟨_, rfl, ?_⟩;have n0_ := Aside0.mk (Kd.N_elder' (by (with_reducible repeat (first | apply Kd.N_alloc | apply Kd.N_drewN | apply Kd.N_drew));exact HO_10.out) (Kd.N_base ho0) hb);have n1_ := Aside0.mk (Kd.N_lower (Kd.N_mono (ok' := fun k_ => (w.heap.size ≤ k_) ∧ some k_ ≠ (v278 : Value).ownBlock ∧ k_ ≠ gb276) ho0 (fun k_ hk_ => ⟨(Nat.le_trans (below_size (by exact bB)) hk_), (Kd.fresh' (Kd.N_lt (by (with_reducible repeat (first | apply Kd.N_alloc | apply Kd.N_drewN | apply Kd.N_drew));exact HO_10.out)) k_ hk_), (Kd.freshB (g := gb276) (o := .cells #[.int .i64 a0_0, .slice A0_1 l0_1.length c0_1] 28 (0, 0)) (by exact kP BK276.out) k_ hk_)⟩)) (below_size (by exact bB)));have n2_ := Aside0.mk (blk_below (g := gb276) (o := .cells #[.int .i64 a0_0, .slice A0_1 l0_1.length c0_1] 28 (0, 0)) (by exact kP BK276.out) hb);have n3_ := Aside0.mk (below_step (by exact bB) hb);clear HO_10;clear BK276;clear HB;have HO_10 := n0_;have HO286 := n1_;have BK276 := n2_;have HB := n3_;clear n0_ n1_ n2_ n3_;(try clear hb);(try clear hb2);(try clear hk);(try clear hi);(try clear ho0)))
    have n0_ := Aside0.mk (Kd.N_drew HO_10.out)
    have n1_ := Aside0.mk (Kd.N_drew HO286.out)
    have n2_ := Aside0.mk (blk_drew BK276.out)
    have n3_ := Aside0.mk (below_drew1 HB.out)
    clear HO_10
    clear HO286
    clear BK276
    clear HB
    have HO_10 := n0_
    have HO286 := n1_
    have BK276 := n2_
    have HB := n3_
    clear n0_ n1_ n2_ n3_
    obtain ⟨Ao41, co41, eo41⟩ := Kd.N_slice HO286.out
    (first | subst eo41 | (injection eo41 with f1_ f2_ f3_;have f4_ := f1_.symm;have f5_ := f3_.symm;clear f1_ f2_ f3_;subst f4_;subst f5_))
    refine start_ (n := 9) (S := fun w' => w'.cell? ⟨gb276, 0, none⟩ = some (.int .i64 a0_0) ∧ w'.cell? ⟨gb276, 1, none⟩ = some (.slice A0_1 l0_1.length c0_1)) (ds := []) #[false,false,false,false,false,false,false,false,false] (by kernel_rfl) rfl rfl ⟨(blk_cell BK276.out 0).trans rfl, (blk_cell BK276.out 1).trans rfl⟩ (fun hHeld => ?_);refine with_tabW spec_GuardAnswers.tab5 spec_GuardAnswers.bits5 (fun HT_ HW_ => ?_)
    generalize w39.drew = w40 at HO_10 HO286 BK276 HB hHeld ⊢
    refine pure_ (i := 1) (N := some 41) (v := ?_) (a' := ?_) #[false,true,false,false,false,false,false,false,false] rfl rfl (any_of HT_.out (by kernel_rfl)) (fun _ _ _ h => h) (Or.inl ⟨by rfl, ?_⟩) ?_ ?_
    rotate_left
    ·intro w'
     go_simp
     with_reducible rfl
    rotate_left
    ·simp only [Act.put, List.setIfInBounds_toArray, List.set_cons_zero, List.set_cons_succ, i64_w, i32_w]
     rfl
    refine pure_ (i := 2) (N := some 42) (v := ?_) (a' := ?_) #[false,true,true,false,false,false,false,false,false] rfl rfl (any_of HT_.out (by kernel_rfl)) (fun _ _ _ h => h) (Or.inl ⟨by rfl, ?_⟩) ?_ ?_
    rotate_left
    ·intro w'
     go_simp
     with_reducible rfl
    rotate_left
    ·simp only [Act.put, List.setIfInBounds_toArray, List.set_cons_zero, List.set_cons_succ, i64_w, i32_w]
     rfl
    refine pure_ (i := 3) (N := some 43) (v := ?_) (a' := ?_) #[false,true,true,true,false,false,false,false,false] rfl rfl (any_of HT_.out (by kernel_rfl)) (fun _ _ _ h => h) (Or.inl ⟨by rfl, ?_⟩) ?_ ?_
    rotate_left
    ·intro w'
     go_simp
     with_reducible rfl
    rotate_left
    ·simp only [Act.put, List.setIfInBounds_toArray, List.set_cons_zero, List.set_cons_succ, i64_w, i32_w]
     rfl
    refine pure_ (i := 5) (N := some 45) (v := ?_) (a' := ?_) #[false,true,true,true,false,true,false,false,false] rfl rfl (any_of HT_.out (by kernel_rfl)) (fun _ _ _ h => h) (Or.inl ⟨by rfl, ?_⟩) ?_ ?_
    rotate_left
    ·intro w'
     go_simp
     with_reducible rfl
    rotate_left
    ·simp only [Act.put, List.setIfInBounds_toArray, List.set_cons_zero, List.set_cons_succ, i64_w, i32_w]
     rfl
    refine pure_ (i := 6) (N := some 46) (v := ?_) (a' := ?_) #[false,true,true,true,false,true,true,false,false] rfl rfl (any_of HT_.out (by kernel_rfl)) (fun _ _ _ h => h) (Or.inl ⟨by rfl, ?_⟩) ?_ ?_
    rotate_left
    ·intro w'
     go_simp
     with_reducible rfl
    rotate_left
    ·simp only [Act.put, List.setIfInBounds_toArray, List.set_cons_zero, List.set_cons_succ, i64_w, i32_w]
     rfl
    refine take_ (i := 0) (N := some 40) (v := ?_) (a' := ?_) #[true,true,true,true,false,true,true,false,false] rfl rfl (take_ofW HT_.out HW_.out (by kernel_rfl)) (fun _ _ _ h => h) (Or.inl ⟨by rfl, ?_⟩) hHeld ?_ ?_
    rotate_left
    ·rintro w' ⟨s0, s1⟩
     go_simp
     with_reducible rfl
    rotate_left
    ·simp only [Act.put, List.setIfInBounds_toArray, List.set_cons_zero, List.set_cons_succ, i64_w, i32_w]
     rfl
    refine one_ (i := 4) (N := some 44) #[true,true,true,true,true,true,true,false,false] rfl rfl (one_of HT_.out (by kernel_rfl)) (by decide) (fun K hK => ?_)
    refine goes_ Tryd.func72 (by kernel_rfl) rfl #[.slice Ao41 t284.length co41, .slice A1 l1.length c1] (by rfl) rfl rfl mM ?_
    with_reducible refine (spec_l4At.calls kj4 _ _ t284 _ _ l1 t287 _ ?side1 ?side2 ?side3 ?side4 A36.out).mono ?_
    (case side1 => exact cP (Kd.N_reads' HO286.out).2.2)
    (case side2 => exact (Kd.N_reads' HO286.out).2.1)
    (case side3 => exact cP (Kd.C_below HR1.out HB.out))
    (case side4 => exact HC1.out)
    rintro e w' ⟨rfl, ⟨nd, rfl⟩⟩
    refine ⟨_, rfl, ?_⟩
    refine hK.out _ _ ⟨(blk_cell BK276.out 0).trans rfl, (blk_cell BK276.out 1).trans rfl⟩ (fun hHeld => ?_)
    clear hK K
    refine norm_ (a' := ?_) ?_ ?_
    rotate_left
    ·show Act.put _ (some 44) _ = _
     simp only [Act.put, List.setIfInBounds_toArray, List.set_cons_zero, List.set_cons_succ, i64_w, i32_w]
     rfl
    refine one_ (i := 7) (N := some 47) #[true,true,true,true,true,true,true,true,false] rfl rfl (one_of HT_.out (by kernel_rfl)) (by decide) (fun K hK => ?_)
    refine goes_ Tryd.func71 (by kernel_rfl) rfl #[.agg #[.int .i64 a0_0, .slice A0_1 l0_1.length c0_1], .slice Ao41 t284.length co41, .int .i64 t287, .int .i64 a2, .bool a3] (by rfl) rfl rfl mM ?_
    with_reducible refine (spec_l10Answers.calls kj4 a0_0 _ _ l0_1 _ _ t284 t287 a2 a3 t288 _ ?side1 ?side2 ?side3 ?side4 A37.out).mono ?_
    (case side1 => exact cP (Kd.C_below HR0_1.out (by repeat (first | (with_reducible first | exact HB.out | apply below_alloc | apply pw_below_drewN | apply below_drew1 | refine below_set ?_ GE276.out) | exact HB.out))))
    (case side2 => exact HC0_1.out)
    (case side3 => exact cP (Kd.N_reads' HO286.out).2.2)
    (case side4 => exact (Kd.N_reads' HO286.out).2.1)
    rintro e w42 ⟨v289, rfl, ho0, hb⟩
    refine ⟨_, rfl, ?_⟩
    have n0_ := Aside0.mk (Kd.N_elder' (by (with_reducible repeat (first | apply Kd.N_alloc | apply Kd.N_drewN | apply Kd.N_drew));exact HO_10.out) (Kd.R_base ho0) hb)
    have n1_ := Aside0.mk (Kd.N_elder' (by (with_reducible repeat (first | apply Kd.N_alloc | apply Kd.N_drewN | apply Kd.N_drew));exact HO286.out) (Kd.R_base ho0) hb)
    have n2_ := Aside0.mk (Kd.R_lower (Kd.R_newM (M := fun k_ => (w.heap.size ≤ k_)) ho0 (below_size (by exact bB)) (fun k_ h_ => h_)) (below_size (by exact bB)))
    have n3_ := Aside0.mk (blk_below (g := gb276) (o := .cells #[.int .i64 a0_0, .slice A0_1 l0_1.length c0_1] 28 (0, 0)) (by exact kP BK276.out) hb)
    have n4_ := Aside0.mk (below_step (by exact bB) hb)
    clear HO_10
    clear HO286
    clear BK276
    clear HB
    have HO_10 := n0_
    have HO286 := n1_
    have HO290 := n2_
    have BK276 := n3_
    have HB := n4_
    clear n0_ n1_ n2_ n3_ n4_
    (try clear hb)
    (try clear hb2)
    (try clear hk)
    (try clear hi)
    (try clear ho0)
    refine hK.out _ _ ⟨(blk_cell BK276.out 0).trans rfl, (blk_cell BK276.out 1).trans rfl⟩ (fun hHeld => ?_)
    clear hK K
    refine norm_ (a' := ?_) ?_ ?_
    rotate_left
    ·show Act.put _ (some 47) _ = _
     simp only [Act.put, List.setIfInBounds_toArray, List.set_cons_zero, List.set_cons_succ, i64_w, i32_w]
     rfl
    refine pure_ (i := 8) (N := some 12) (v := ?_) (a' := ?_) #[true,true,true,true,true,true,true,true,true] rfl rfl (any_of HT_.out (by kernel_rfl)) (fun _ _ _ h => h) (Or.inl ⟨by rfl, ?_⟩) ?_ ?_
    rotate_left
    ·intro w'
     go_simp
     with_reducible rfl
    rotate_left
    ·simp only [Act.put, List.setIfInBounds_toArray, List.set_cons_zero, List.set_cons_succ, i64_w, i32_w]
     rfl
    refine done_ (done_of HT_.out (by kernel_rfl)) ?_
    try go_wp2
    go_loopg [10, 13] kj4 (fun kq v10 v13 w' => ∃ (x10_2 : List (List Int)) (x13_2 : Int), v13 = .int .i64 x13_2 ∧ Aside0 (spec_GuardAnswers.l0 kq x10_2 t284 t288 x13_2 = some (r1, r2)) ∧ Aside0 (kq ≤ kj4) ∧ Aside0 (Kd.N (Kd.slice 3 (Kd.int .i64)) 32 w' w.heap.size (fun k_ => (w.heap.size ≤ k_) ∧ some k_ ≠ ((.slice Ao41 t284.length co41) : Value).ownBlock ∧ some k_ ≠ (v289 : Value).ownBlock ∧ k_ ≠ gb276) v10 x10_2) ∧ Aside0 (Kd.N (Kd.slice 3 (Kd.int .i64)) 32 w' w.heap.size (fun k_ => (w.heap.size ≤ k_) ∧ some k_ ≠ (v10 : Value).ownBlock ∧ some k_ ≠ (v289 : Value).ownBlock ∧ k_ ≠ gb276) (.slice Ao41 t284.length co41) t284) ∧ Aside0 (Kd.R (Kd.int .i64) 3 w' w.heap.size (fun k_ => (w.heap.size ≤ k_)) v289 t288) ∧ Aside0 (w'.heap[gb276]? = some (.cells #[.int .i64 a0_0, (.slice A0_1 l0_1.length c0_1)] 28 (0, 0))) ∧ Aside0 (Below w.heap.size w w'))
    case atStart => exact ⟨(y277), (0), (by first | rfl | (simp;done) | (simp [*];done)), H', ⟨Nat.le_refl _⟩, ⟨by (with_reducible repeat (first | apply Kd.N_alloc | apply Kd.N_drewN | apply Kd.N_drew));exact Kd.N_mono HO_10.out (fun _ hk => ⟨hk.1.1.1, ⟨hk.1.2, ⟨hk.2, hk.1.1.2⟩⟩⟩)⟩, ⟨by (with_reducible repeat (first | apply Kd.N_alloc | apply Kd.N_drewN | apply Kd.N_drew));exact Kd.N_mono HO286.out (fun _ hk => ⟨hk.1.1, ⟨hk.1.2.1, ⟨hk.2, hk.1.2.2⟩⟩⟩)⟩, ⟨by refine rP ?_;exact Kd.R_mono HO290.out (fun _ hk => hk.1)⟩, ⟨by exact kP BK276.out⟩, ⟨by exact bB⟩⟩
    case round =>
     clear H'
     try clear c1
     try clear p2
     try clear c3
     try clear c4
     try clear c7
     try clear c10
     try clear c12
     try clear c14
     try clear c34
     try clear c36
     try clear c41
     try clear hcz16_0
     try clear hcz16_1
     try clear hcz18_0
     try clear hcz18_1
     try clear hcz20_0
     try clear hcz20_1
     try clear hcz22_0
     try clear hcz22_1
     try clear hcz24_0
     try clear hcz24_1
     try clear hcz26_0
     try clear hcz26_1
     try clear hcz28_0
     try clear hcz28_1
     try clear hcz30_0
     try clear hcz30_1
     try clear hcz32_0
     try clear hcz32_1
     try clear hcz38_0
     try clear hcz38_1
     try clear hfz16_0
     try clear hfz16_1
     try clear hfz18_0
     try clear hfz18_1
     try clear hfz20_0
     try clear hfz20_1
     try clear hfz22_0
     try clear hfz22_1
     try clear hfz24_0
     try clear hfz24_1
     try clear hfz26_0
     try clear hfz26_1
     try clear hfz28_0
     try clear hfz28_1
     try clear hfz30_0
     try clear hfz30_1
     try clear hfz32_0
     try clear hfz32_1
     try clear hfz38_0
     try clear hfz38_1
     try clear p2
     obtain ⟨x10_2, x13_2, rfl, HA, HK2, HO_10, HO_11, HO_12, BK276, HB⟩ := hrel
     cases gk with
     | zero => exact absurd HA.out (by simp [spec_GuardAnswers.l0])
     | succ k2 =>
      have H := HA.out
      clear HA
      simp only [spec_GuardAnswers.l0] at H
      by_cases c43 : x13_2 < (t288.length : Int)
      ·rw [if_pos c43] at H
       have c43b0 : decide (x13_2 < (t288.length : Int)) = true := decide_eq_true c43
       clear c43
       by_cases c44 : 0 ≤ x13_2
       ·rw [if_pos c44] at H
        have c44b0 : decide (0 ≤ x13_2) = true := decide_eq_true c44
        clear c44
        by_cases c45 : 0 ≤ (rd t288 x13_2)
        ·rw [if_pos c45] at H
         have c45b0 : decide (0 ≤ (rd t288 x13_2)) = true := decide_eq_true c45
         clear c45
         by_cases c46 : (rd t288 x13_2) < (t284.length : Int)
         ·rw [if_pos c46] at H
          have c46b0 : decide ((rd t288 x13_2) < (t284.length : Int)) = true := decide_eq_true c46
          clear c46
          by_cases c47 : x10_2.length < 5864062014805
          ·rw [if_pos c47] at H
           have LMc47 := Aside0.mk c47
           clear c47
           obtain ⟨y293, hy293⟩ : ∃ y_ : List (List Int), y_ = (x10_2 ++ [rd_L2 t284 (rd t288 x13_2)]) := ⟨_, rfl⟩
           replace H : (spec_GuardAnswers.l0 k2 y293 t284 t288 (wrap64 (x13_2 + 1))) = some (r1, r2) := by first | (rw [hy293];with_reducible exact H) | (have H2_ := (Option.bind_some _ _).symm.trans H;rw [hy293];with_reducible exact H2_) | (have H2_ := (Option.bind_some _ _).symm.trans H;with_reducible exact H2_) | with_reducible exact H | (rw [hy293];exact H) | exact H
           have Ny293 := Aside0.mk hy293
           clear hy293
           have H' := Aside0.mk H
           clear H
           obtain ⟨Ao48, co48, eo48⟩ := Kd.R_slice HO_12.out
           subst eo48
           have p291 : 0 ≤ (x13_2 : Int) := oA
           have q291 : x13_2 < (t288.length : Int) := oA
           obtain ⟨ad291, e291, hx291_0⟩ := Kd.at_int (Kd.R_reads' HO_12.out).2.2 x13_2 p291 q291
           cases e291
           replace p291 := eq_true p291
           replace q291 := eq_true q291
           have p292 : 0 ≤ ((rd t288 x13_2) : Int) := oA
           have q292 : (rd t288 x13_2) < (t284.length : Int) := oA
           obtain ⟨ad292, A292_0, c292_0, e292, hx292_0, hl292_0, hi292_0⟩ := at_L2 (Kd.N_reads' HO_11.out).2.2 (rd t288 x13_2) p292 q292
           cases e292
           obtain ⟨ce292, hce292, hMe292, hcc292⟩ := Kd.N_get HO_11.out [] (rd t288 x13_2) p292 (by first | exact q292 | exact oA | (have e_ := (Kd.N_reads' HO_11.out).1;omega))
           obtain ⟨ua292_0, uc292_0, rfl, ul292_0, ge292_0⟩ := Kd.FK_slice_open hMe292
           have hv292_0 := hcc292 0 _ rfl
           rw [Nat.add_zero, show ((Kd.slice 3 (Kd.int .i64))).sz = 1 from rfl, Nat.mul_one] at hv292_0
           replace hv292_0 := Option.some.inj (hv292_0.symm.trans hx292_0)
           injection hv292_0 with hva_ hvn_ hvc_
           rw [hva_] at ge292_0
           rw [hvc_] at ul292_0
           have HL292_0 := Aside0.mk (show Kd.V (Kd.int .i64) 3 _ w.heap.size _ _ (rd_L2 t284 (rd t288 x13_2)) from Kd.V_mk ul292_0 ge292_0)
           clear hva_ hvn_ hvc_ ge292_0 ul292_0
           clear hcc292 hce292
           have HR292_0 := Aside0.mk hi292_0
           have HC292_0 := Aside0.mk hl292_0
           clear hi292_0 hl292_0
           replace p292 := eq_true p292
           replace q292 := eq_true q292
           go_wp2_with (first | ((with_reducible refine gate_builtin (b := .append) (xs := #[.tmp 54, .tmp 62]) rfl ?_);at_builtin;refine Kd.N_append (Kd.slice 3 (Kd.int .i64)) (w0 := w) w.heap.size rfl (.tmp 54) (.tmp 62) 38 32 (.slice none 0 0) 24 rfl Tryd.underlying38 info32 rfl (by decide) (by omega) u10 x10_2 (rd_L2 t284 (rd t288 x13_2)) [.slice A292_0 (rd_L2 t284 (rd t288 x13_2)).length c292_0] (fun k_ => (w.heap.size ≤ k_) ∧ some k_ ≠ (.slice (some ad292) t284.length co41 : Value).ownBlock ∧ some k_ ≠ (.slice (some ad291) t288.length co48 : Value).ownBlock ∧ k_ ≠ gb276) (fun k_ => ((fun k_ => (w.heap.size ≤ k_) ∧ some k_ ≠ (.slice (some ad292) t284.length co41 : Value).ownBlock ∧ some k_ ≠ (.slice (some ad291) t288.length co48 : Value).ownBlock ∧ k_ ≠ gb276)) k_ ∧ some k_ ≠ (u10 : Value).ownBlock) rfl rfl ?aP (fun _ hk => hk) ?aF ?aO ?aB ?aS ?aL ?_;(case aP => exact (Kd.FK_slice_mk (Kd.V_reads' (Kd.V_mono (ok' := (fun k_ => ((fun k_ => (w.heap.size ≤ k_) ∧ some k_ ≠ (.slice (some ad292) t284.length co41 : Value).ownBlock ∧ some k_ ≠ (.slice (some ad291) t288.length co48 : Value).ownBlock ∧ k_ ≠ gb276)) k_ ∧ some k_ ≠ (u10 : Value).ownBlock)) (HL292_0.out) (fun k_ hk => ⟨⟨hk.1.1, ⟨hk.2, ⟨hk.1.2.2.1, hk.1.2.2.2⟩⟩⟩, hk.1.2.1⟩))).2.1 (Kd.V_F (Kd.V_mono (ok' := (fun k_ => ((fun k_ => (w.heap.size ≤ k_) ∧ some k_ ≠ (.slice (some ad292) t284.length co41 : Value).ownBlock ∧ some k_ ≠ (.slice (some ad291) t288.length co48 : Value).ownBlock ∧ k_ ≠ gb276)) k_ ∧ some k_ ≠ (u10 : Value).ownBlock)) (HL292_0.out) (fun k_ hk => ⟨⟨hk.1.1, ⟨hk.2, ⟨hk.1.2.2.1, hk.1.2.2.2⟩⟩⟩, hk.1.2.1⟩)))));(case aB => exact (by exact bB));(case aF => exact (fun k_ hk => ⟨(Nat.le_trans (below_size (by exact bB)) hk), Kd.fresh' (Kd.N_lt (by (with_reducible repeat (first | apply Kd.N_alloc | apply Kd.N_drewN | apply Kd.N_drew));exact HO_11.out)) k_ hk, Kd.fresh' (Kd.R_lt (by exact rP HO_12.out)) k_ hk, Kd.freshB (g := gb276) (o := .cells #[.int .i64 a0_0, .slice A0_1 l0_1.length c0_1] 28 (0, 0)) (by exact kP BK276.out) k_ hk⟩));(case aO => exact (by (with_reducible repeat (first | apply Kd.N_alloc | apply Kd.N_drewN | apply Kd.N_drew));exact HO_10.out));(case aS => exact (below_size (by exact bB)));(case aL => have := LMc47.out;omega);intro v294 w49 ho hb hg hat;rw [← Ny293.out] at ho;have n0_ := Aside0.mk (Kd.N_afterv (ok := (fun k_ => (w.heap.size ≤ k_) ∧ some k_ ≠ (.slice (some ad291) t288.length co48 : Value).ownBlock ∧ k_ ≠ gb276)) (by (with_reducible repeat (first | apply Kd.N_alloc | apply Kd.N_drewN | apply Kd.N_drew));exact Kd.N_mono HO_11.out (fun _ hk => ⟨⟨hk.1, ⟨hk.2.2.1, hk.2.2.2⟩⟩, hk.2.1⟩)) hg hat);have n1_ := Aside0.mk (Kd.R_over' (by exact rP HO_12.out) (Kd.N_typed (by (with_reducible repeat (first | apply Kd.N_alloc | apply Kd.N_drewN | apply Kd.N_drew));exact HO_10.out)) (by decide) hg);have n2_ := Aside0.mk (blk_grown (g := gb276) (o := .cells #[.int .i64 a0_0, .slice A0_1 l0_1.length c0_1] 28 (0, 0)) (by exact kP BK276.out) hg (Kd.N_ne HO_10.out BK276.out (by decide)));have n3_ := Aside0.mk (Kd.V_afterv (ok := (fun k_ => (w.heap.size ≤ k_) ∧ some k_ ≠ (.slice (some ad292) t284.length co41 : Value).ownBlock ∧ some k_ ≠ (.slice (some ad291) t288.length co48 : Value).ownBlock ∧ k_ ≠ gb276)) (by (with_reducible repeat (first | apply Kd.V_alloc | apply Kd.V_drewN | apply Kd.V_drew));exact Kd.V_mono HL292_0.out (fun _ hk => ⟨⟨hk.1.1, ⟨hk.2, ⟨hk.1.2.2.1, hk.1.2.2.2⟩⟩⟩, hk.1.2.1⟩)) hg hat);have n4_ := Aside0.mk (hb);have n5_ := Aside0.mk (ho);clear HO_11;clear HO_12;clear BK276;clear HL292_0;clear HB;clear HO_10;have HO_11 := n0_;have HO_12 := n1_;have BK276 := n2_;have HL292_0 := n3_;have HB := n4_;have HO295 := n5_;clear n0_ n1_ n2_ n3_ n4_ n5_;clear ho hb hg hat))
           go_roundg k2
           case measure => have := HJ4.out;have := HK2.out;omega
           case rel => exact ⟨(y293), (wrap64 (x13_2 + 1)), (by first | rfl | (simp;done) | (simp [*];done)), H', ⟨by have := HJ4.out;have := HK2.out;omega⟩, ⟨by (with_reducible repeat (first | apply Kd.N_alloc | apply Kd.N_drewN | apply Kd.N_drew));exact HO295.out⟩, ⟨by (with_reducible repeat (first | apply Kd.N_alloc | apply Kd.N_drewN | apply Kd.N_drew));exact Kd.N_mono HO_11.out (fun _ hk => ⟨hk.1.1, ⟨hk.2, ⟨hk.1.2.1, hk.1.2.2⟩⟩⟩)⟩, ⟨by exact rP HO_12.out⟩, ⟨by exact kP BK276.out⟩, ⟨by exact bB⟩⟩
          ·rw [if_neg c47] at H
           exact absurd H (by simp)
         ·rw [if_neg c46] at H
          exact absurd H (by simp)
        ·rw [if_neg c45] at H
         exact absurd H (by simp)
       ·rw [if_neg c44] at H
        exact absurd H (by simp)
      ·rw [if_neg c43] at H
       have c43b0 : decide (x13_2 < (t288.length : Int)) = false := decide_eq_false c43
       clear c43
       simp only [Option.some.injEq, Prod.mk.injEq] at H
       obtain ⟨rfl, rfl⟩ := H
       obtain ⟨Ao50, co50, eo50⟩ := Kd.R_slice HO_12.out
       subst eo50
       go_wp2
       go_ret2
       exact ⟨_, by first | rfl | (simp [errW_none, errW_some] <;> rfl) | (simp [*, errW_none, errW_some] <;> rfl), by (with_reducible repeat (first | apply Kd.N_alloc | apply Kd.N_drewN | apply Kd.N_drew));exact Kd.N_mono HO_10.out (fun _ hk => hk.1), by exact bB⟩


end Go.Proofs.YthbjajppdomhhaaDoor.QGuardAnswers
