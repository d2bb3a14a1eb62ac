import Derived.Test.YtaddgielnfhhpaaQFortsOf0
import Derived.Test.YtaddgielnfhhpaaQFortsOf3
import Derived.Test.YtaddgielnfhhpaaQFortsOf4
import Derived.Test.YtaddgielnfhhpaaQFortsOf7
import Derived.Test.YtaddgielnfhhpaaQFortsOf8
namespace Go.Proofs.Ytaddgielnfhhpaa.QFortsOf
open Go.RowKit Go.Proofs.YtaddgielnfhhpaaW.PrintWords Go.Proofs.YtaddgielnfhhpaaW.PrintLast Go.Proofs.YtaddgielnfhhpaaW.PrintMore
attribute [local go_sem] max2_int min2_int max_two min_two max_three min_three max_four min_four   -- for this text's walks alone
set_option linter.unusedVariables false
set_option linter.unusedSimpArgs false
/-! ### spec_FortsOf: function 30 -/
mutual
def spec_FortsOf.l0 : Nat → List (List Int) → List (List Int) → Int → Int → List (S80) → Option ((List (List Int)) × Bool)
 | 0, _, _, _, _, _ => none
 | k + 1, x4, x5, x6, x278000, x278001 => if x6 < (x5.length : Int) then (if 0 ≤ x6 then ((spec_l9Fort.f k x278000 x278001 (rd_L2 x5 x6)).bind fun t286 => (spec_FortsOf.l1 k x4 x5 x6 t286 0 x278000 x278001)) else (none)) else (some (x4, true))
def spec_FortsOf.l1 : Nat → List (List Int) → List (List Int) → Int → Bool → Int → Int → List (S80) → Option ((List (List Int)) × Bool)
 | 0, _, _, _, _, _, _, _ => none
 | k + 1, x4, x5, x6, x7, x8, x278000, x278001 => if x8 < (x4.length : Int) then (if x7 = true then (if 0 ≤ x8 then (if 0 ≤ x6 then (if x6 < (x5.length : Int) then ((spec_l7Part.f k (rd_L2 x4 x8) (rd_L2 x5 x6)).bind fun t289 => (spec_FortsOf.l1 k x4 x5 x6 (!t289) (wrap64 (x8 + 1)) x278000 x278001)) else (none)) else (none)) else (none)) else (spec_FortsOf.l0 k x4 x5 (wrap64 (x6 + 1)) x278000 x278001)) else (if x7 = true then (if 0 ≤ x6 then (if x6 < (x5.length : Int) then (if x4.length < 5864062014805 then (spec_FortsOf.l0 k (x4 ++ [rd_L2 x5 x6]) x5 (wrap64 (x6 + 1)) x278000 x278001) else (none)) else (none)) else (none)) else (spec_FortsOf.l0 k x4 x5 (wrap64 (x6 + 1)) x278000 x278001))
end
def spec_FortsOf.f (k : Nat) (a0_0 : Int) (l0_1 : List (S80)) : Option ((List (List Int)) × Bool) := (some (([] : List (List Int)) : List (List Int))).bind fun y278 => ((spec_l2Good.f a0_0 l0_1).bind fun t281 => (if t281 = true then ((spec_l5Sets.f k a0_0 l0_1 (wrap64 (a0_0 + 1))).bind fun t282 => (spec_FortsOf.l0 k y278 t282 0 a0_0 l0_1)) else (some (y278, false))))
theorem spec_FortsOf.mono_l : ∀ k, (∀ y0 y1 y2 y3 y4, LeO (spec_FortsOf.l0 k y0 y1 y2 y3 y4) (spec_FortsOf.l0 (k + 1) y0 y1 y2 y3 y4)) ∧ (∀ y0 y1 y2 y3 y4 y5 y6, LeO (spec_FortsOf.l1 k y0 y1 y2 y3 y4 y5 y6) (spec_FortsOf.l1 (k + 1) y0 y1 y2 y3 y4 y5 y6))
 | 0 => ⟨fun _ _ _ _ _ r h => by simp [spec_FortsOf.l0] at h, fun _ _ _ _ _ _ _ r h => by simp [spec_FortsOf.l1] at h⟩
 | k + 1 => by
  obtain ⟨ih0, ih1⟩ := spec_FortsOf.mono_l k
  refine ⟨?_, ?_⟩
  ·intro y0 y1 y2 y3 y4
   unfold spec_FortsOf.l0
   repeat' first
   | (with_reducible exact ih0 _ _ _ _ _)
   | (with_reducible exact ih1 _ _ _ _ _ _ _)
   | (with_reducible exact spec_l5Sets.mono _ _ _ _)
   | (with_reducible exact spec_l7Part.mono _ _ _)
   | (with_reducible exact spec_l9Fort.mono _ _ _ _)
   | (with_reducible exact LeO.refl _)
   | (with_reducible exact LeO.none _)
   | (with_reducible refine LeO.ite ?_ ?_)
   | (with_reducible refine LeO.bind ?_ (fun _ => ?_))
   | exact ih0 _ _ _ _ _
   | exact ih1 _ _ _ _ _ _ _
   | exact spec_l5Sets.mono _ _ _ _
   | exact spec_l7Part.mono _ _ _
   | exact spec_l9Fort.mono _ _ _ _
   | exact LeO.none _
   | refine LeO.ite ?_ ?_
   | refine LeO.bind ?_ (fun _ => ?_)
  ·intro y0 y1 y2 y3 y4 y5 y6
   unfold spec_FortsOf.l1
   repeat' first
   | (with_reducible exact ih0 _ _ _ _ _)
   | (with_reducible exact ih1 _ _ _ _ _ _ _)
   | (with_reducible exact spec_l5Sets.mono _ _ _ _)
   | (with_reducible exact spec_l7Part.mono _ _ _)
   | (with_reducible exact spec_l9Fort.mono _ _ _ _)
   | (with_reducible exact LeO.refl _)
   | (with_reducible exact LeO.none _)
   | (with_reducible refine LeO.ite ?_ ?_)
   | (with_reducible refine LeO.bind ?_ (fun _ => ?_))
   | exact ih0 _ _ _ _ _
   | exact ih1 _ _ _ _ _ _ _
   | exact spec_l5Sets.mono _ _ _ _
   | exact spec_l7Part.mono _ _ _
   | exact spec_l9Fort.mono _ _ _ _
   | exact LeO.none _
   | refine LeO.ite ?_ ?_
   | refine LeO.bind ?_ (fun _ => ?_)
theorem spec_FortsOf.mono : ∀ a0 a1 k, LeO (spec_FortsOf.f k a0 a1) (spec_FortsOf.f (k + 1) a0 a1) := by
 intro a0 a1 k
 obtain ⟨ih0, ih1⟩ := spec_FortsOf.mono_l k
 unfold spec_FortsOf.f
 repeat' first
   | (with_reducible exact ih0 _ _ _ _ _)
   | (with_reducible exact ih1 _ _ _ _ _ _ _)
   | (with_reducible exact spec_l5Sets.mono _ _ _ _)
   | (with_reducible exact spec_l7Part.mono _ _ _)
   | (with_reducible exact spec_l9Fort.mono _ _ _ _)
   | (with_reducible exact LeO.refl _)
   | (with_reducible exact LeO.none _)
   | (with_reducible refine LeO.ite ?_ ?_)
   | (with_reducible refine LeO.bind ?_ (fun _ => ?_))
   | exact ih0 _ _ _ _ _
   | exact ih1 _ _ _ _ _ _ _
   | exact spec_l5Sets.mono _ _ _ _
   | exact spec_l7Part.mono _ _ _
   | exact spec_l9Fort.mono _ _ _ _
   | exact LeO.none _
   | refine LeO.ite ?_ ?_
   | refine LeO.bind ?_ (fun _ => ?_)
def spec_FortsOf.T12 : Bool × List (List Nat × List Nat) := (true, [([], []), ([], []), ([0, 1], [0, 1]), ([2], [2]), ([], []), ([], []), ([4, 5], [4, 5]), ([6], [6]), ([3, 7], [3, 7]), ([8], [8]), ([9, 8, 0, 1, 2, 3, 4, 5, 6, 7, 8, 9], [9])])
def spec_FortsOf.B12 : List Nat := [0, 0, 3, 7, 0, 0, 48, 112, 255, 511, 1023]
theorem spec_FortsOf.tab12 : rtab .any (opsOf Try.f30 12) = spec_FortsOf.T12 := by kernel_rfl
theorem spec_FortsOf.bits12 : waitsOk spec_FortsOf.T12.2 spec_FortsOf.B12 = true := by kernel_rfl
set_option maxHeartbeats 8000000 in
set_option maxRecDepth 100000 in
theorem spec_FortsOf.calls (k : Nat) (a0_0 : Int) (A0_1 : Option Addr) (c0_1 : Nat) (l0_1 : List (S80)) (r1 : List (List Int)) (r2 : Bool) (w : World) (hr0_1 : Kd.C k80 w A0_1 l0_1.length l0_1) (hc0_1 : l0_1.length ≤ c0_1) (h : spec_FortsOf.f k a0_0 l0_1 = some (r1, r2)) :
  Calls Try.prog 30 #[.agg #[.int .i64 a0_0, .slice A0_1 l0_1.length c0_1]] w fun e w' => ∃ v0_ : Value, e = .returned (.tuple #[v0_, .bool r2]) ∧ Kd.N (Kd.slice 3 (Kd.int .i64)) 25 w' w.heap.size (fun k_ => (w.heap.size ≤ k_)) v0_ r1 ∧ Below w.heap.size w w' := by
 have hu29 := Try.underlying29
 have HR0_1 := Aside0.mk hr0_1
 have HC0_1 := Aside0.mk hc0_1
 clear hr0_1 hc0_1
 have HB := Aside0.mk (Below.refl w.heap.size w)
 have H : ((some (([] : List (List Int)) : List (List Int))).bind fun y278 => ((spec_l2Good.f a0_0 l0_1).bind fun t281 => (if t281 = true then ((spec_l5Sets.f k a0_0 l0_1 (wrap64 (a0_0 + 1))).bind fun t282 => (spec_FortsOf.l0 k y278 t282 0 a0_0 l0_1)) else (some (y278, false))))) = some (r1, r2) := h
 clear h
 obtain ⟨y278, hy278⟩ : ∃ y_ : List (List Int), y_ = (([] : List (List Int))) := ⟨_, rfl⟩
 replace H : ((spec_l2Good.f a0_0 l0_1).bind fun t281 => (if t281 = true then ((spec_l5Sets.f k a0_0 l0_1 (wrap64 (a0_0 + 1))).bind fun t282 => (spec_FortsOf.l0 k y278 t282 0 a0_0 l0_1)) else (some (y278, false)))) = some (r1, r2) := by first | (rw [hy278];with_reducible exact H) | (have H2_ := (Option.bind_some _ _).symm.trans H;rw [hy278];with_reducible exact H2_) | (have H2_ := (Option.bind_some _ _).symm.trans H;with_reducible exact H2_) | with_reducible exact H | (rw [hy278];exact H) | exact H
 have Ny278 := Aside0.mk hy278
 clear hy278
 replace H := Option.bind_eq_some_iff.mp H
 obtain ⟨t281, A20, H⟩ := H
 replace H : (if t281 = true then ((spec_l5Sets.f k a0_0 l0_1 (wrap64 (a0_0 + 1))).bind fun t282 => (spec_FortsOf.l0 k y278 t282 0 a0_0 l0_1)) else (some (y278, false))) = some (r1, r2) := H
 have A2 := Aside0.mk A20
 clear A20
 by_cases c3 : t281 = true
 ·subst c3
  have H1 : ((spec_l5Sets.f k a0_0 l0_1 (wrap64 (a0_0 + 1))).bind fun t282 => (spec_FortsOf.l0 k y278 t282 0 a0_0 l0_1)) = some (r1, r2) := by rw [if_pos rfl] at H;exact H
  clear H
  have H := H1
  clear H1
  replace H := Option.bind_eq_some_iff.mp H
  obtain ⟨t282, A40, H⟩ := H
  replace H : (spec_FortsOf.l0 k y278 t282 0 a0_0 l0_1) = some (r1, r2) := H
  have A4 := Aside0.mk A40
  clear A40
  have H' := Aside0.mk H
  clear H
  go_enter Try.func30, Try.ntmps30
  go_wp2_with (first | ((with_reducible refine gate_dst (N := 1) rfl ?_);refine box_event ?hg (N := 1) ?hd (cs := #[.int .i64 a0_0, .slice A0_1 l0_1.length c0_1]) (t := 29) ?hr ?_;(case hd => rfl);(case hg => rfl);(case hr => first | (go_simp;done) | (go_simp;rfl));intro gb277 hg w5 hbox hb;have n0_ := Aside0.mk (below_step (by exact bB) hb);have n1_ := Aside0.mk (hbox);have n2_ := Aside0.mk ((by rw [hg];exact (below_size (by exact bB)) : w.heap.size ≤ gb277));have n3_ := Aside0.mk ((by rw [hg];exact (below_size (by exact bB)) : w.heap.size ≤ gb277));clear HB;have HB := n0_;have BK277 := n1_;have GW277 := n2_;have GE277 := n3_;clear n0_ n1_ n2_ n3_;clear hb hbox hg) | ((with_reducible refine gate_dst (N := 9) rfl ?_);refine Kd.N_lit (Kd.slice 3 (Kd.int .i64)) _ 25 ?hg (N' := 9) ?hd (xs := ([] : List (List Int))) (inner := []) (ok := (fun k_ => (w.heap.size ≤ k_) ∧ k_ ≠ gb277)) (okp := (fun k_ => (w.heap.size ≤ k_) ∧ k_ ≠ gb277)) ?hr ?hp (fun _ hk => hk) ((show ∀ k_, w5.heap.size ≤ k_ → (fun k_ => (w.heap.size ≤ k_) ∧ k_ ≠ gb277) k_ from fun k_ hk => ⟨(Nat.le_trans (below_size (by exact bB)) hk), Kd.freshB (g := gb277) (o := .cells #[.int .i64 a0_0, .slice A0_1 l0_1.length c0_1] 29 (0, 0)) (by exact kP BK277.out) k_ hk⟩) _ (Nat.le_refl _)) (Below.refl _ _) (Nat.le_refl _) (by simp) ?_;(case hd => rfl);(case hg => rfl);(case hr => first | (go_simp;done) | (go_simp;rfl));(case hp => exact (Reps.none _ _));intro v279 w6 ho7 hb hg_ hnew_;clear hg_ hnew_;(first | rw [← Ny278.out] at ho7 | (simp only [Int.reduceToNat] at ho7;rw [← Ny278.out] at ho7));have n0_ := Aside0.mk (Kd.N_lower ho7 (below_size (by exact bB)));have n1_ := Aside0.mk (blk_below (g := gb277) (o := .cells #[.int .i64 a0_0, .slice A0_1 l0_1.length c0_1] 29 (0, 0)) (by exact kP BK277.out) hb);have n2_ := Aside0.mk (below_step (by exact bB) hb);clear BK277;clear HB;have HO280 := n0_;have BK277 := n1_;have HB := n2_;clear n0_ n1_ n2_;clear hb ho7;have hcz8_0 : w6.cell? ⟨gb277, 0, none⟩ = some (.int .i64 a0_0) := (blk_cell BK277.out 0).trans rfl;have hcz8_1 : w6.cell? ⟨gb277, 1, none⟩ = some (.slice A0_1 l0_1.length c0_1) := (blk_cell BK277.out 1).trans rfl;have hfz8_0 := blk_frozen BK277.out 0;have hfz8_1 := blk_frozen BK277.out 1) | ((with_reducible refine gate_callee (f := 33) rfl ?_);refine goesL_ (some 11) rfl rfl Try.func33 (by kernel_rfl) rfl #[.agg #[.int .i64 a0_0, .slice A0_1 l0_1.length c0_1]] rfl mM ?_;(with_reducible refine (spec_l2Good.calls a0_0 _ _ l0_1 true _ ?side1 ?side2 A2.out).mono ?_);(case side1 => exact cP (Kd.C_below HR0_1.out HB.out));(case side2 => exact HC0_1.out);rintro e w9 ⟨rfl, hb⟩;refine ⟨_, rfl, ?_⟩;have n0_ := Aside0.mk (Kd.N_below (by (with_reducible repeat (first | apply Kd.N_alloc | apply Kd.N_drewN | apply Kd.N_drew));exact HO280.out) hb);have n1_ := Aside0.mk (blk_below (g := gb277) (o := .cells #[.int .i64 a0_0, .slice A0_1 l0_1.length c0_1] 29 (0, 0)) (by exact kP BK277.out) hb);have n2_ := Aside0.mk (below_step (by exact bB) hb);clear HO280;clear BK277;clear HB;have HO280 := n0_;have BK277 := n1_;have HB := n2_;clear n0_ n1_ n2_;(try clear hb);(try clear hb2);(try clear hk);(try clear hi);have hcz10_0 : w9.cell? ⟨gb277, 0, none⟩ = some (.int .i64 a0_0) := (blk_cell BK277.out 0).trans rfl;have hcz10_1 : w9.cell? ⟨gb277, 1, none⟩ = some (.slice A0_1 l0_1.length c0_1) := (blk_cell BK277.out 1).trans rfl;have hfz10_0 := blk_frozen BK277.out 0;have hfz10_1 := blk_frozen BK277.out 1) | ((with_reducible refine gate_callee (f := 53) rfl ?_);refine goesL_ (some 18) rfl rfl Try.func53 (by kernel_rfl) rfl #[.agg #[.int .i64 a0_0, .slice A0_1 l0_1.length c0_1], .int .i64 (wrap64 (a0_0 + 1))] rfl mM ?_;(with_reducible refine (spec_l5Sets.calls k a0_0 _ _ l0_1 (wrap64 (a0_0 + 1)) t282 _ ?side1 ?side2 A4.out).mono ?_);(case side1 => exact cP (Kd.C_below HR0_1.out HB.out));(case side2 => exact HC0_1.out);rintro e w11 ⟨v283, rfl, ho0, hb⟩;refine ⟨_, rfl, ?_⟩;have n0_ := Aside0.mk (Kd.N_elder' (by (with_reducible repeat (first | apply Kd.N_alloc | apply Kd.N_drewN | apply Kd.N_drew));exact HO280.out) (Kd.N_base ho0) hb);have n1_ := Aside0.mk (Kd.N_lower (Kd.N_mono (ok' := fun k_ => (w.heap.size ≤ k_) ∧ some k_ ≠ (v279 : Value).ownBlock ∧ k_ ≠ gb277) ho0 (fun k_ hk_ => ⟨(Nat.le_trans (below_size (by exact bB)) hk_), (Kd.fresh' (Kd.N_lt (by (with_reducible repeat (first | apply Kd.N_alloc | apply Kd.N_drewN | apply Kd.N_drew));exact HO280.out)) k_ hk_), (Kd.freshB (g := gb277) (o := .cells #[.int .i64 a0_0, .slice A0_1 l0_1.length c0_1] 29 (0, 0)) (by exact kP BK277.out) k_ hk_)⟩)) (below_size (by exact bB)));have n2_ := Aside0.mk (blk_below (g := gb277) (o := .cells #[.int .i64 a0_0, .slice A0_1 l0_1.length c0_1] 29 (0, 0)) (by exact kP BK277.out) hb);have n3_ := Aside0.mk (below_step (by exact bB) hb);clear HO280;clear BK277;clear HB;have HO280 := n0_;have HO284 := n1_;have BK277 := n2_;have HB := n3_;clear n0_ n1_ n2_ n3_;(try clear hb);(try clear hb2);(try clear hk);(try clear hi);(try clear ho0)))
  go_loopg [4, 6] k (fun kq v4 v6 w' => ∃ (x4_1 : List (List Int)) (x6_1 : Int), v6 = .int .i64 x6_1 ∧ Aside0 (spec_FortsOf.l0 kq x4_1 t282 x6_1 a0_0 l0_1 = some (r1, r2)) ∧ Aside0 (kq ≤ k) ∧ Aside0 (Kd.N (Kd.slice 3 (Kd.int .i64)) 25 w' w.heap.size (fun k_ => (w.heap.size ≤ k_) ∧ some k_ ≠ (v283 : Value).ownBlock ∧ k_ ≠ gb277) v4 x4_1) ∧ Aside0 (Kd.N (Kd.slice 3 (Kd.int .i64)) 25 w' w.heap.size (fun k_ => (w.heap.size ≤ k_) ∧ some k_ ≠ (v4 : Value).ownBlock ∧ k_ ≠ gb277) v283 t282) ∧ Aside0 (w'.heap[gb277]? = some (.cells #[.int .i64 a0_0, (.slice A0_1 l0_1.length c0_1)] 29 (0, 0))) ∧ Aside0 (Below w.heap.size w w'))
  case atStart => exact ⟨(y278), (0), (by first | rfl | (simp;done) | (simp [*];done)), H', ⟨Nat.le_refl _⟩, ⟨by (with_reducible repeat (first | apply Kd.N_alloc | apply Kd.N_drewN | apply Kd.N_drew));exact Kd.N_mono HO280.out (fun _ hk => ⟨hk.1.1, ⟨hk.2, hk.1.2⟩⟩)⟩, ⟨by (with_reducible repeat (first | apply Kd.N_alloc | apply Kd.N_drewN | apply Kd.N_drew));exact HO284.out⟩, ⟨by exact kP BK277.out⟩, ⟨by exact bB⟩⟩
  case round =>
   clear H'
   try clear p2
   try clear c3
   try clear c5
   try clear p6
   try clear hcz10_0
   try clear hcz10_1
   try clear hcz8_0
   try clear hcz8_1
   try clear hfz10_0
   try clear hfz10_1
   try clear hfz8_0
   try clear hfz8_1
   obtain ⟨x4_1, x6_1, rfl, HA, HK1, HO_4, HO_5, BK277, HB⟩ := hrel
   cases gk with
   | zero => exact absurd HA.out (by simp [spec_FortsOf.l0])
   | succ k1 =>
    have H := HA.out
    clear HA
    simp only [spec_FortsOf.l0] at H
    by_cases c12 : x6_1 < (t282.length : Int)
    ·rw [if_pos c12] at H
     have c12b0 : decide (x6_1 < (t282.length : Int)) = true := decide_eq_true c12
     clear c12
     by_cases c13 : 0 ≤ x6_1
     ·rw [if_pos c13] at H
      have c13b0 : decide (0 ≤ x6_1) = true := decide_eq_true c13
      clear c13
      replace H := Option.bind_eq_some_iff.mp H
      obtain ⟨t286, A140, H⟩ := H
      replace H : (spec_FortsOf.l1 k1 x4_1 t282 x6_1 t286 0 a0_0 l0_1) = some (r1, r2) := H
      have A14 := Aside0.mk A140
      clear A140
      have H' := Aside0.mk H
      clear H
      obtain ⟨Ao15, co15, eo15⟩ := Kd.N_slice HO_5.out
      subst eo15
      try go_wp2
      have n0_ := Aside0.mk (Kd.N_drew HO_4.out)
      have n1_ := Aside0.mk (Kd.N_drew HO_5.out)
      have n2_ := Aside0.mk (blk_drew BK277.out)
      have n3_ := Aside0.mk (below_drew1 HB.out)
      clear HO_4
      clear HO_5
      clear BK277
      clear HB
      have HO_4 := n0_
      have HO_5 := n1_
      have BK277 := n2_
      have HB := n3_
      clear n0_ n1_ n2_ n3_
      have p285 : 0 ≤ (x6_1 : Int) := oA
      have q285 : x6_1 < (t282.length : Int) := oA
      obtain ⟨ad285, A285_0, c285_0, e285, hx285_0, hl285_0, hi285_0⟩ := at_L2 (Kd.N_reads' HO_5.out).2.2 x6_1 p285 q285
      cases e285
      obtain ⟨ce285, hce285, hMe285, hcc285⟩ := Kd.N_get HO_5.out [] x6_1 p285 (by first | exact q285 | exact oA | (have e_ := (Kd.N_reads' HO_5.out).1;omega))
      obtain ⟨ua285_0, uc285_0, rfl, ul285_0, ge285_0⟩ := Kd.FK_slice_open hMe285
      have hv285_0 := hcc285 0 _ rfl
      rw [Nat.add_zero, show ((Kd.slice 3 (Kd.int .i64))).sz = 1 from rfl, Nat.mul_one] at hv285_0
      replace hv285_0 := Option.some.inj (hv285_0.symm.trans hx285_0)
      injection hv285_0 with hva_ hvn_ hvc_
      rw [hva_] at ge285_0
      rw [hvc_] at ul285_0
      have HL285_0 := Aside0.mk (show Kd.V (Kd.int .i64) 3 _ w.heap.size _ _ (rd_L2 t282 x6_1) from Kd.V_mk ul285_0 ge285_0)
      clear hva_ hvn_ hvc_ ge285_0 ul285_0
      clear hcc285 hce285
      have HR285_0 := Aside0.mk hi285_0
      have HC285_0 := Aside0.mk hl285_0
      clear hi285_0 hl285_0
      replace p285 := eq_true p285
      replace q285 := eq_true q285
      refine start_ (n := 7) (S := fun w' => w'.cell? ⟨gb277, 0, none⟩ = some (.int .i64 a0_0) ∧ w'.cell? ⟨gb277, 1, none⟩ = some (.slice A0_1 l0_1.length c0_1) ∧ w'.cell? (ad285.add (x6_1).toNat) = some (.slice A285_0 (rd_L2 t282 x6_1).length c285_0)) (ds := []) #[false,false,false,false,false,false,false] (by kernel_rfl) rfl rfl ⟨(blk_cell BK277.out 0).trans rfl, (blk_cell BK277.out 1).trans rfl, hx285_0⟩ (fun hHeld => ?_)
      generalize wr.drew = w16 at HO_4 HO_5 BK277 HB HL285_0 HR285_0 hx285_0 hHeld ⊢
      refine pure_ (i := 1) (N := some 26) (v := ?_) (a' := ?_) #[false,true,false,false,false,false,false] rfl rfl (by kernel_rfl) (fun _ _ _ h => h) (Or.inl ⟨by rfl, ?_⟩) ?_ ?_
      rotate_left
      ·intro w'
       go_simp
       with_reducible rfl
      rotate_left
      ·simp only [Act.put, List.setIfInBounds_toArray, List.set_cons_zero, List.set_cons_succ, i64_w, i32_w]
       rfl
      refine pure_ (i := 2) (N := some 27) (v := ?_) (a' := ?_) #[false,true,true,false,false,false,false] rfl rfl (by kernel_rfl) (fun _ _ _ h => h) (Or.inl ⟨by rfl, ?_⟩) ?_ ?_
      rotate_left
      ·intro w'
       go_simp
       with_reducible rfl
      rotate_left
      ·simp only [Act.put, List.setIfInBounds_toArray, List.set_cons_zero, List.set_cons_succ, i64_w, i32_w]
       rfl
      refine pure_ (i := 3) (N := some 28) (v := ?_) (a' := ?_) #[false,true,true,true,false,false,false] rfl rfl (by kernel_rfl) (fun _ _ _ h => h) (Or.inl ⟨by rfl, ?_⟩) ?_ ?_
      rotate_left
      ·intro w'
       go_simp
       with_reducible rfl
      rotate_left
      ·simp only [Act.put, List.setIfInBounds_toArray, List.set_cons_zero, List.set_cons_succ, i64_w, i32_w]
       rfl
      refine take_ (i := 0) (N := some 25) (v := ?_) (a' := ?_) #[true,true,true,true,false,false,false] rfl rfl (by kernel_rfl) (fun _ _ _ h => h) (Or.inl ⟨by rfl, ?_⟩) hHeld ?_ ?_
      rotate_left
      ·rintro w' ⟨s0, s1, s2⟩
       go_simp
       with_reducible rfl
      rotate_left
      ·simp only [Act.put, List.setIfInBounds_toArray, List.set_cons_zero, List.set_cons_succ, i64_w, i32_w]
       rfl
      refine take_ (i := 4) (N := some 29) (v := ?_) (a' := ?_) #[true,true,true,true,true,false,false] rfl rfl (by kernel_rfl) (fun _ _ _ h => h) (Or.inl ⟨by rfl, ?_⟩) hHeld ?_ ?_
      rotate_left
      ·rintro w' ⟨s0, s1, s2⟩
       go_simp
       with_reducible rfl
      rotate_left
      ·simp only [Act.put, List.setIfInBounds_toArray, List.set_cons_zero, List.set_cons_succ, i64_w, i32_w]
       rfl
      refine one_ (i := 5) (N := some 30) #[true,true,true,true,true,true,false] rfl rfl (by kernel_rfl) (by decide) (fun K hK => ?_)
      refine goes_ Try.func54 (by kernel_rfl) rfl #[.agg #[.int .i64 a0_0, .slice A0_1 l0_1.length c0_1], .slice A285_0 (rd_L2 t282 x6_1).length c285_0] (by rfl) rfl rfl mM ?_
      with_reducible refine (spec_l9Fort.calls k1 a0_0 _ _ l0_1 _ _ (rd_L2 t282 x6_1) t286 _ ?side1 ?side2 ?side3 ?side4 A14.out).mono ?_
      (case side1 => exact cP (Kd.C_below HR0_1.out HB.out))
      (case side2 => exact HC0_1.out)
      (case side3 => exact cP (by repeat (first | (with_reducible exact HR285_0.out) | (with_reducible refine Kd.C_alloc ?_ _) | (with_reducible refine Kd.C_drewN ?_ _) | (with_reducible refine Kd.C_drew ?_) | exact HR285_0.out)))
      (case side4 => exact HC285_0.out)
      rintro e w17 ⟨rfl, hb⟩
      have HS2_ := (hb.cell (World.block_lt_of_cell? _ _ (hHeld.2.2))).trans (hHeld.2.2)
      refine ⟨_, rfl, ?_⟩
      have n0_ := Aside0.mk (Kd.N_below (by (with_reducible repeat (first | apply Kd.N_alloc | apply Kd.N_drewN | apply Kd.N_drew));exact HO_4.out) hb)
      have n1_ := Aside0.mk (Kd.N_below (by (with_reducible repeat (first | apply Kd.N_alloc | apply Kd.N_drewN | apply Kd.N_drew));exact HO_5.out) hb)
      have n2_ := Aside0.mk (Kd.V_below (by (with_reducible repeat (first | apply Kd.V_alloc | apply Kd.V_drewN | apply Kd.V_drew));exact HL285_0.out) hb)
      have n3_ := Aside0.mk (blk_below (g := gb277) (o := .cells #[.int .i64 a0_0, .slice A0_1 l0_1.length c0_1] 29 (0, 0)) (by exact kP BK277.out) hb)
      have n4_ := Aside0.mk (Kd.C_below (by repeat (first | (with_reducible exact HR285_0.out) | (with_reducible refine Kd.C_alloc ?_ _) | (with_reducible refine Kd.C_drewN ?_ _) | (with_reducible refine Kd.C_drew ?_) | exact HR285_0.out)) hb)
      have n5_ := Aside0.mk (below_step (by exact bB) hb)
      clear HO_4
      clear HO_5
      clear HL285_0
      clear BK277
      clear HR285_0
      clear HB
      have HO_4 := n0_
      have HO_5 := n1_
      have HL285_0 := n2_
      have BK277 := n3_
      have HR285_0 := n4_
      have HB := n5_
      clear n0_ n1_ n2_ n3_ n4_ n5_
      (try clear hb)
      (try clear hb2)
      (try clear hk)
      (try clear hi)
      refine hK.out _ _ ⟨(blk_cell BK277.out 0).trans rfl, (blk_cell BK277.out 1).trans rfl, HS2_⟩ (fun hHeld => ?_)
      clear hK K
      refine norm_ (a' := ?_) ?_ ?_
      rotate_left
      ·show Act.put _ (some 30) _ = _
       simp only [Act.put, List.setIfInBounds_toArray, List.set_cons_zero, List.set_cons_succ, i64_w, i32_w]
       rfl
      refine pure_ (i := 6) (N := some 7) (v := ?_) (a' := ?_) #[true,true,true,true,true,true,true] rfl rfl (by kernel_rfl) (fun _ _ _ h => h) (Or.inl ⟨by rfl, ?_⟩) ?_ ?_
      rotate_left
      ·intro w'
       go_simp
       with_reducible rfl
      rotate_left
      ·simp only [Act.put, List.setIfInBounds_toArray, List.set_cons_zero, List.set_cons_succ, i64_w, i32_w]
       rfl
      refine done_ (by kernel_rfl) ?_
      try go_wp2
      go_loopg [7, 8] k1 (fun kq v7 v8 w' => ∃ (x7_2 : Bool) (x8_2 : Int), v7 = .bool x7_2 ∧ v8 = .int .i64 x8_2 ∧ Aside0 (spec_FortsOf.l1 kq x4_1 t282 x6_1 x7_2 x8_2 a0_0 l0_1 = some (r1, r2)) ∧ Aside0 (kq ≤ k1) ∧ Aside0 (Kd.N (Kd.slice 3 (Kd.int .i64)) 25 w' w.heap.size (fun k_ => (w.heap.size ≤ k_) ∧ some k_ ≠ ((.slice (some ad285) t282.length co15) : Value).ownBlock ∧ k_ ≠ gb277) u4 x4_1) ∧ Aside0 (Kd.N (Kd.slice 3 (Kd.int .i64)) 25 w' w.heap.size (fun k_ => (w.heap.size ≤ k_) ∧ some k_ ≠ (u4 : Value).ownBlock ∧ k_ ≠ gb277) (.slice (some ad285) t282.length co15) t282) ∧ Aside0 (w'.heap[gb277]? = some (.cells #[.int .i64 a0_0, (.slice A0_1 l0_1.length c0_1)] 29 (0, 0))) ∧ Aside0 (Kd.C (Kd.int .i64) w' A285_0 (rd_L2 t282 x6_1).length (rd_L2 t282 x6_1)) ∧ Aside0 (Below w.heap.size w w'))
      case atStart => exact ⟨(t286), (0), (by first | rfl | (simp;done) | (simp [*];done)), (by first | rfl | (simp;done) | (simp [*];done)), H', ⟨Nat.le_refl _⟩, ⟨by (with_reducible repeat (first | apply Kd.N_alloc | apply Kd.N_drewN | apply Kd.N_drew));exact HO_4.out⟩, ⟨by (with_reducible repeat (first | apply Kd.N_alloc | apply Kd.N_drewN | apply Kd.N_drew));exact HO_5.out⟩, ⟨by exact kP BK277.out⟩, ⟨by repeat (first | (with_reducible exact HR285_0.out) | (with_reducible refine Kd.C_alloc ?_ _) | (with_reducible refine Kd.C_drewN ?_ _) | (with_reducible refine Kd.C_drew ?_) | exact HR285_0.out)⟩, ⟨by exact bB⟩⟩
      case round =>
       clear H'
       try clear c1
       try clear c2
       try clear p2
       try clear q2
       try clear hx2
       try clear c3
       try clear c5
       try clear p6
       try clear c12
       try clear c12b0
       try clear c13
       try clear c13b0
       try clear hcz10_0
       try clear hcz10_1
       try clear hcz8_0
       try clear hcz8_1
       try clear hfz10_0
       try clear hfz10_1
       try clear hfz8_0
       try clear hfz8_1
       try clear hx285_0
       try clear p2
       try clear p285
       try clear p6
       try clear q285
       obtain ⟨x7_2, x8_2, rfl, rfl, HA, HK2, HO_4, HO_5, BK277, HR285_0, HB⟩ := hrel
       cases gk with
       | zero => exact absurd HA.out (by simp [spec_FortsOf.l1])
       | succ k2 =>
        have H := HA.out
        clear HA
        simp only [spec_FortsOf.l1] at H
        by_cases c18 : x8_2 < (x4_1.length : Int)
        ·rw [if_pos c18] at H
         have c18b0 : decide (x8_2 < (x4_1.length : Int)) = true := decide_eq_true c18
         clear c18
         by_cases c19 : x7_2 = true
         ·subst c19
          have H1 : (if 0 ≤ x8_2 then (if 0 ≤ x6_1 then (if x6_1 < (t282.length : Int) then ((spec_l7Part.f k2 (rd_L2 x4_1 x8_2) (rd_L2 t282 x6_1)).bind fun t289 => (spec_FortsOf.l1 k2 x4_1 t282 x6_1 (!t289) (wrap64 (x8_2 + 1)) a0_0 l0_1)) else (none)) else (none)) else (none)) = some (r1, r2) := by rw [if_pos rfl] at H;exact H
          clear H
          have H := H1
          clear H1
          by_cases c20 : 0 ≤ x8_2
          ·rw [if_pos c20] at H
           have c20b0 : decide (0 ≤ x8_2) = true := decide_eq_true c20
           clear c20
           by_cases c21 : 0 ≤ x6_1
           ·rw [if_pos c21] at H
            have c21b0 : decide (0 ≤ x6_1) = true := decide_eq_true c21
            clear c21
            by_cases c22 : x6_1 < (t282.length : Int)
            ·rw [if_pos c22] at H
             have c22b0 : decide (x6_1 < (t282.length : Int)) = true := decide_eq_true c22
             clear c22
             replace H := Option.bind_eq_some_iff.mp H
             obtain ⟨t289, A230, H⟩ := H
             replace H : (spec_FortsOf.l1 k2 x4_1 t282 x6_1 (!t289) (wrap64 (x8_2 + 1)) a0_0 l0_1) = some (r1, r2) := H
             have A23 := Aside0.mk A230
             clear A230
             have H' := Aside0.mk H
             clear H
             obtain ⟨Ao24, co24, eo24⟩ := Kd.N_slice HO_4.out
             subst eo24
             try go_wp2
             have n0_ := Aside0.mk (Kd.N_drew HO_4.out)
             have n1_ := Aside0.mk (Kd.N_drew HO_5.out)
             have n2_ := Aside0.mk (blk_drew BK277.out)
             have n3_ := Aside0.mk (Kd.C_drew HR285_0.out)
             have n4_ := Aside0.mk (below_drew1 HB.out)
             clear HO_4
             clear HO_5
             clear BK277
             clear HR285_0
             clear HB
             have HO_4 := n0_
             have HO_5 := n1_
             have BK277 := n2_
             have HR285_0 := n3_
             have HB := n4_
             clear n0_ n1_ n2_ n3_ n4_
             have p287 : 0 ≤ (x8_2 : Int) := oA
             have q287 : x8_2 < (x4_1.length : Int) := oA
             obtain ⟨ad287, A287_0, c287_0, e287, hx287_0, hl287_0, hi287_0⟩ := at_L2 (Kd.N_reads' HO_4.out).2.2 x8_2 p287 q287
             cases e287
             obtain ⟨ce287, hce287, hMe287, hcc287⟩ := Kd.N_get HO_4.out [] x8_2 p287 (by first | exact q287 | exact oA | (have e_ := (Kd.N_reads' HO_4.out).1;omega))
             obtain ⟨ua287_0, uc287_0, rfl, ul287_0, ge287_0⟩ := Kd.FK_slice_open hMe287
             have hv287_0 := hcc287 0 _ rfl
             rw [Nat.add_zero, show ((Kd.slice 3 (Kd.int .i64))).sz = 1 from rfl, Nat.mul_one] at hv287_0
             replace hv287_0 := Option.some.inj (hv287_0.symm.trans hx287_0)
             injection hv287_0 with hva_ hvn_ hvc_
             rw [hva_] at ge287_0
             rw [hvc_] at ul287_0
             have HL287_0 := Aside0.mk (show Kd.V (Kd.int .i64) 3 _ w.heap.size _ _ (rd_L2 x4_1 x8_2) from Kd.V_mk ul287_0 ge287_0)
             clear hva_ hvn_ hvc_ ge287_0 ul287_0
             clear hcc287 hce287
             have HR287_0 := Aside0.mk hi287_0
             have HC287_0 := Aside0.mk hl287_0
             clear hi287_0 hl287_0
             replace p287 := eq_true p287
             replace q287 := eq_true q287
             have p288 : 0 ≤ (x6_1 : Int) := oA
             have q288 : x6_1 < (t282.length : Int) := oA
             obtain ⟨ad288, A288_0, c288_0, e288, hx288_0, hl288_0, hi288_0⟩ := at_L2 (Kd.N_reads' HO_5.out).2.2 x6_1 p288 q288
             obtain rfl : ad285 = ad288 := (by injection e288)
             obtain ⟨ce288, hce288, hMe288, hcc288⟩ := Kd.N_get HO_5.out [] x6_1 p288 (by first | exact q288 | exact oA | (have e_ := (Kd.N_reads' HO_5.out).1;omega))
             obtain ⟨ua288_0, uc288_0, rfl, ul288_0, ge288_0⟩ := Kd.FK_slice_open hMe288
             have hv288_0 := hcc288 0 _ rfl
             rw [Nat.add_zero, show ((Kd.slice 3 (Kd.int .i64))).sz = 1 from rfl, Nat.mul_one] at hv288_0
             replace hv288_0 := Option.some.inj (hv288_0.symm.trans hx288_0)
             injection hv288_0 with hva_ hvn_ hvc_
             rw [hva_] at ge288_0
             rw [hvc_] at ul288_0
             have HL288_0 := Aside0.mk (show Kd.V (Kd.int .i64) 3 _ w.heap.size _ _ (rd_L2 t282 x6_1) from Kd.V_mk ul288_0 ge288_0)
             clear hva_ hvn_ hvc_ ge288_0 ul288_0
             clear hcc288 hce288
             have HR288_0 := Aside0.mk hi288_0
             have HC288_0 := Aside0.mk hl288_0
             clear hi288_0 hl288_0
             replace p288 := eq_true p288
             replace q288 := eq_true q288
             refine start_ (n := 11) (S := fun w' => w'.cell? (ad287.add (x8_2).toNat) = some (.slice A287_0 (rd_L2 x4_1 x8_2).length c287_0) ∧ w'.cell? (ad285.add (x6_1).toNat) = some (.slice A288_0 (rd_L2 t282 x6_1).length c288_0)) (ds := []) #[false,false,false,false,false,false,false,false,false,false,false] (by kernel_rfl) rfl rfl ⟨hx287_0, hx288_0⟩ (fun hHeld => ?_);refine with_tabW spec_FortsOf.tab12 spec_FortsOf.bits12 (fun HT_ HW_ => ?_)
             generalize wr.drew = w25 at HO_4 HO_5 BK277 HR285_0 HB HL287_0 HL288_0 HR287_0 HR288_0 hx287_0 hx288_0 hHeld ⊢
             refine pure_ (i := 0) (N := some 40) (v := ?_) (a' := ?_) #[true,false,false,false,false,false,false,false,false,false,false] rfl rfl (any_of HT_.out (by kernel_rfl)) (fun _ _ _ h => h) (Or.inl ⟨by rfl, ?_⟩) ?_ ?_
             rotate_left
             ·intro w'
              go_simp
              with_reducible rfl
             rotate_left
             ·simp only [Act.put, List.setIfInBounds_toArray, List.set_cons_zero, List.set_cons_succ, i64_w, i32_w]
              rfl
             refine pure_ (i := 1) (N := some 41) (v := ?_) (a' := ?_) #[true,true,false,false,false,false,false,false,false,false,false] rfl rfl (any_of HT_.out (by kernel_rfl)) (fun _ _ _ h => h) (Or.inl ⟨by rfl, ?_⟩) ?_ ?_
             rotate_left
             ·intro w'
              go_simp
              with_reducible rfl
             rotate_left
             ·simp only [Act.put, List.setIfInBounds_toArray, List.set_cons_zero, List.set_cons_succ, i64_w, i32_w]
              rfl
             refine pure_ (i := 2) (N := some 42) (v := ?_) (a' := ?_) #[true,true,true,false,false,false,false,false,false,false,false] rfl rfl (any_of HT_.out (by kernel_rfl)) (fun _ _ _ h => h) (Or.inl ⟨by rfl, ?_⟩) ?_ ?_
             rotate_left
             ·intro w'
              go_simp
              with_reducible rfl
             rotate_left
             ·simp only [Act.put, List.setIfInBounds_toArray, List.set_cons_zero, List.set_cons_succ, i64_w, i32_w]
              rfl
             refine pure_ (i := 4) (N := some 44) (v := ?_) (a' := ?_) #[true,true,true,false,true,false,false,false,false,false,false] rfl rfl (any_of HT_.out (by kernel_rfl)) (fun _ _ _ h => h) (Or.inl ⟨by rfl, ?_⟩) ?_ ?_
             rotate_left
             ·intro w'
              go_simp
              with_reducible rfl
             rotate_left
             ·simp only [Act.put, List.setIfInBounds_toArray, List.set_cons_zero, List.set_cons_succ, i64_w, i32_w]
              rfl
             refine pure_ (i := 5) (N := some 45) (v := ?_) (a' := ?_) #[true,true,true,false,true,true,false,false,false,false,false] rfl rfl (any_of HT_.out (by kernel_rfl)) (fun _ _ _ h => h) (Or.inl ⟨by rfl, ?_⟩) ?_ ?_
             rotate_left
             ·intro w'
              go_simp
              with_reducible rfl
             rotate_left
             ·simp only [Act.put, List.setIfInBounds_toArray, List.set_cons_zero, List.set_cons_succ, i64_w, i32_w]
              rfl
             refine pure_ (i := 6) (N := some 46) (v := ?_) (a' := ?_) #[true,true,true,false,true,true,true,false,false,false,false] rfl rfl (any_of HT_.out (by kernel_rfl)) (fun _ _ _ h => h) (Or.inl ⟨by rfl, ?_⟩) ?_ ?_
             rotate_left
             ·intro w'
              go_simp
              with_reducible rfl
             rotate_left
             ·simp only [Act.put, List.setIfInBounds_toArray, List.set_cons_zero, List.set_cons_succ, i64_w, i32_w]
              rfl
             refine take_ (i := 3) (N := some 43) (v := ?_) (a' := ?_) #[true,true,true,true,true,true,true,false,false,false,false] rfl rfl (take_ofW HT_.out HW_.out (by kernel_rfl)) (fun _ _ _ h => h) (Or.inl ⟨by rfl, ?_⟩) hHeld ?_ ?_
             rotate_left
             ·rintro w' ⟨s0, s1⟩
              go_simp
              with_reducible rfl
             rotate_left
             ·simp only [Act.put, List.setIfInBounds_toArray, List.set_cons_zero, List.set_cons_succ, i64_w, i32_w]
              rfl
             refine take_ (i := 7) (N := some 47) (v := ?_) (a' := ?_) #[true,true,true,true,true,true,true,true,false,false,false] rfl rfl (take_ofW HT_.out HW_.out (by kernel_rfl)) (fun _ _ _ h => h) (Or.inl ⟨by rfl, ?_⟩) hHeld ?_ ?_
             rotate_left
             ·rintro w' ⟨s0, s1⟩
              go_simp
              with_reducible rfl
             rotate_left
             ·simp only [Act.put, List.setIfInBounds_toArray, List.set_cons_zero, List.set_cons_succ, i64_w, i32_w]
              rfl
             refine one_ (i := 8) (N := some 48) #[true,true,true,true,true,true,true,true,true,false,false] rfl rfl (one_of HT_.out (by kernel_rfl)) (by decide) (fun K hK => ?_)
             refine goes_ Try.func55 (by kernel_rfl) rfl #[.slice A287_0 (rd_L2 x4_1 x8_2).length c287_0, .slice A288_0 (rd_L2 t282 x6_1).length c288_0] (by rfl) rfl rfl mM ?_
             with_reducible refine (spec_l7Part.calls k2 _ _ (rd_L2 x4_1 x8_2) _ _ (rd_L2 t282 x6_1) t289 _ ?side1 ?side2 ?side3 ?side4 A23.out).mono ?_
             (case side1 => exact cP (by repeat (first | (with_reducible exact HR287_0.out) | (with_reducible refine Kd.C_alloc ?_ _) | (with_reducible refine Kd.C_drewN ?_ _) | (with_reducible refine Kd.C_drew ?_) | exact HR287_0.out)))
             (case side2 => exact HC287_0.out)
             (case side3 => exact cP (by repeat (first | (with_reducible exact HR288_0.out) | (with_reducible refine Kd.C_alloc ?_ _) | (with_reducible refine Kd.C_drewN ?_ _) | (with_reducible refine Kd.C_drew ?_) | exact HR288_0.out)))
             (case side4 => exact HC288_0.out)
             rintro e w' ⟨rfl, ⟨nd, rfl⟩⟩
             refine ⟨_, rfl, ?_⟩
             refine hK.out _ _ ⟨hHeld.1, hHeld.2⟩ (fun hHeld => ?_)
             clear hK K
             refine norm_ (a' := ?_) ?_ ?_
             rotate_left
             ·show Act.put _ (some 48) _ = _
              simp only [Act.put, List.setIfInBounds_toArray, List.set_cons_zero, List.set_cons_succ, i64_w, i32_w]
              rfl
             refine pure_ (i := 9) (N := some 49) (v := ?_) (a' := ?_) #[true,true,true,true,true,true,true,true,true,true,false] rfl rfl (any_of HT_.out (by kernel_rfl)) (fun _ _ _ h => h) (Or.inl ⟨by rfl, ?_⟩) ?_ ?_
             rotate_left
             ·intro w'
              go_simp
              with_reducible rfl
             rotate_left
             ·simp only [Act.put, List.setIfInBounds_toArray, List.set_cons_zero, List.set_cons_succ, i64_w, i32_w]
              rfl
             refine pure_ (i := 10) (N := some 7) (v := ?_) (a' := ?_) #[true,true,true,true,true,true,true,true,true,true,true] rfl rfl (any_of HT_.out (by kernel_rfl)) (fun _ _ _ h => h) (Or.inl ⟨by rfl, ?_⟩) ?_ ?_
             rotate_left
             ·intro w'
              go_simp
              with_reducible rfl
             rotate_left
             ·simp only [Act.put, List.setIfInBounds_toArray, List.set_cons_zero, List.set_cons_succ, i64_w, i32_w]
              rfl
             refine done_ (done_of HT_.out (by kernel_rfl)) ?_
             try go_wp2
             go_roundg k2
             case measure => have := HK1.out;have := HK2.out;omega
             case rel => exact ⟨(!t289), (wrap64 (x8_2 + 1)), (by first | rfl | (simp;done) | (simp [*];done)), (by first | rfl | (simp;done) | (simp [*];done)), H', ⟨by have := HK1.out;have := HK2.out;omega⟩, ⟨by (with_reducible repeat (first | apply Kd.N_alloc | apply Kd.N_drewN | apply Kd.N_drew));exact HO_4.out⟩, ⟨by (with_reducible repeat (first | apply Kd.N_alloc | apply Kd.N_drewN | apply Kd.N_drew));exact HO_5.out⟩, ⟨by exact kP BK277.out⟩, ⟨by repeat (first | (with_reducible exact HR285_0.out) | (with_reducible refine Kd.C_alloc ?_ _) | (with_reducible refine Kd.C_drewN ?_ _) | (with_reducible refine Kd.C_drew ?_) | exact HR285_0.out)⟩, ⟨by exact bB⟩⟩
            ·rw [if_neg c22] at H
             exact absurd H (by simp)
           ·rw [if_neg c21] at H
            exact absurd H (by simp)
          ·rw [if_neg c20] at H
           exact absurd H (by simp)
         ·replace c19 := Bool.eq_false_iff.mpr c19
          subst c19
          have H1 : (spec_FortsOf.l0 k2 x4_1 t282 (wrap64 (x6_1 + 1)) a0_0 l0_1) = some (r1, r2) := by rw [if_neg (show ¬ (false = true) by decide)] at H;exact H
          clear H
          have H := H1
          clear H1
          have H' := Aside0.mk H
          clear H
          obtain ⟨Ao26, co26, eo26⟩ := Kd.N_slice HO_4.out
          subst eo26
          go_wp2
          go_roundg k2
          case measure => have := HK1.out;have := HK2.out;omega
          case rel => exact ⟨(x4_1), (wrap64 (x6_1 + 1)), (by first | rfl | (simp;done) | (simp [*];done)), H', ⟨by have := HK1.out;have := HK2.out;omega⟩, ⟨by (with_reducible repeat (first | apply Kd.N_alloc | apply Kd.N_drewN | apply Kd.N_drew));exact HO_4.out⟩, ⟨by (with_reducible repeat (first | apply Kd.N_alloc | apply Kd.N_drewN | apply Kd.N_drew));exact HO_5.out⟩, ⟨by exact kP BK277.out⟩, ⟨by exact bB⟩⟩
        ·rw [if_neg c18] at H
         have c18b0 : decide (x8_2 < (x4_1.length : Int)) = false := decide_eq_false c18
         clear c18
         by_cases c27 : x7_2 = true
         ·subst c27
          have H1 : (if 0 ≤ x6_1 then (if x6_1 < (t282.length : Int) then (if x4_1.length < 5864062014805 then (spec_FortsOf.l0 k2 (x4_1 ++ [rd_L2 t282 x6_1]) t282 (wrap64 (x6_1 + 1)) a0_0 l0_1) else (none)) else (none)) else (none)) = some (r1, r2) := by rw [if_pos rfl] at H;exact H
          clear H
          have H := H1
          clear H1
          by_cases c28 : 0 ≤ x6_1
          ·rw [if_pos c28] at H
           have c28b0 : decide (0 ≤ x6_1) = true := decide_eq_true c28
           clear c28
           by_cases c29 : x6_1 < (t282.length : Int)
           ·rw [if_pos c29] at H
            have c29b0 : decide (x6_1 < (t282.length : Int)) = true := decide_eq_true c29
            clear c29
            by_cases c30 : x4_1.length < 5864062014805
            ·rw [if_pos c30] at H
             have LMc30 := Aside0.mk c30
             clear c30
             obtain ⟨y291, hy291⟩ : ∃ y_ : List (List Int), y_ = (x4_1 ++ [rd_L2 t282 x6_1]) := ⟨_, rfl⟩
             replace H : (spec_FortsOf.l0 k2 y291 t282 (wrap64 (x6_1 + 1)) a0_0 l0_1) = some (r1, r2) := by first | (rw [hy291];with_reducible exact H) | (have H2_ := (Option.bind_some _ _).symm.trans H;rw [hy291];with_reducible exact H2_) | (have H2_ := (Option.bind_some _ _).symm.trans H;with_reducible exact H2_) | with_reducible exact H | (rw [hy291];exact H) | exact H
             have Ny291 := Aside0.mk hy291
             clear hy291
             have H' := Aside0.mk H
             clear H
             obtain ⟨Ao31, co31, eo31⟩ := Kd.N_slice HO_4.out
             subst eo31
             have p290 : 0 ≤ (x6_1 : Int) := oA
             have q290 : x6_1 < (t282.length : Int) := oA
             obtain ⟨ad290, A290_0, c290_0, e290, hx290_0, hl290_0, hi290_0⟩ := at_L2 (Kd.N_reads' HO_5.out).2.2 x6_1 p290 q290
             obtain rfl : ad285 = ad290 := (by injection e290)
             obtain ⟨ce290, hce290, hMe290, hcc290⟩ := Kd.N_get HO_5.out [] x6_1 p290 (by first | exact q290 | exact oA | (have e_ := (Kd.N_reads' HO_5.out).1;omega))
             obtain ⟨ua290_0, uc290_0, rfl, ul290_0, ge290_0⟩ := Kd.FK_slice_open hMe290
             have hv290_0 := hcc290 0 _ rfl
             rw [Nat.add_zero, show ((Kd.slice 3 (Kd.int .i64))).sz = 1 from rfl, Nat.mul_one] at hv290_0
             replace hv290_0 := Option.some.inj (hv290_0.symm.trans hx290_0)
             injection hv290_0 with hva_ hvn_ hvc_
             rw [hva_] at ge290_0
             rw [hvc_] at ul290_0
             have HL290_0 := Aside0.mk (show Kd.V (Kd.int .i64) 3 _ w.heap.size _ _ (rd_L2 t282 x6_1) from Kd.V_mk ul290_0 ge290_0)
             clear hva_ hvn_ hvc_ ge290_0 ul290_0
             clear hcc290 hce290
             have HR290_0 := Aside0.mk hi290_0
             have HC290_0 := Aside0.mk hl290_0
             clear hi290_0 hl290_0
             replace p290 := eq_true p290
             replace q290 := eq_true q290
             go_wp2_with (first | ((with_reducible refine gate_builtin (b := .append) (xs := #[.tmp 51, .tmp 56]) rfl ?_);at_builtin;refine Kd.N_append (Kd.slice 3 (Kd.int .i64)) (w0 := w) w.heap.size rfl (.tmp 51) (.tmp 56) 37 25 (.slice none 0 0) 24 rfl Try.underlying37 info25 rfl (by decide) (by omega) (.slice Ao31 x4_1.length co31) x4_1 (rd_L2 t282 x6_1) [.slice A290_0 (rd_L2 t282 x6_1).length c290_0] (fun k_ => (w.heap.size ≤ k_) ∧ some k_ ≠ (.slice (some ad285) t282.length co15 : Value).ownBlock ∧ k_ ≠ gb277) (fun k_ => ((fun k_ => (w.heap.size ≤ k_) ∧ some k_ ≠ (.slice (some ad285) t282.length co15 : Value).ownBlock ∧ k_ ≠ gb277)) k_ ∧ some k_ ≠ (.slice Ao31 x4_1.length co31 : Value).ownBlock) rfl rfl ?aP (fun _ hk => hk) ?aF ?aO ?aB ?aS ?aL ?_;(case aP => exact (Kd.FK_slice_mk (Kd.V_reads' (Kd.V_mono (ok' := (fun k_ => ((fun k_ => (w.heap.size ≤ k_) ∧ some k_ ≠ (.slice (some ad285) t282.length co15 : Value).ownBlock ∧ k_ ≠ gb277)) k_ ∧ some k_ ≠ (.slice Ao31 x4_1.length co31 : Value).ownBlock)) (HL290_0.out) (fun k_ hk => ⟨⟨hk.1.1, ⟨hk.2, hk.1.2.2⟩⟩, hk.1.2.1⟩))).2.1 (Kd.V_F (Kd.V_mono (ok' := (fun k_ => ((fun k_ => (w.heap.size ≤ k_) ∧ some k_ ≠ (.slice (some ad285) t282.length co15 : Value).ownBlock ∧ k_ ≠ gb277)) k_ ∧ some k_ ≠ (.slice Ao31 x4_1.length co31 : Value).ownBlock)) (HL290_0.out) (fun k_ hk => ⟨⟨hk.1.1, ⟨hk.2, hk.1.2.2⟩⟩, hk.1.2.1⟩)))));(case aB => exact (by exact bB));(case aF => exact (fun k_ hk => ⟨(Nat.le_trans (below_size (by exact bB)) hk), Kd.fresh' (Kd.N_lt (by (with_reducible repeat (first | apply Kd.N_alloc | apply Kd.N_drewN | apply Kd.N_drew));exact HO_5.out)) k_ hk, Kd.freshB (g := gb277) (o := .cells #[.int .i64 a0_0, .slice A0_1 l0_1.length c0_1] 29 (0, 0)) (by exact kP BK277.out) k_ hk⟩));(case aO => exact (by (with_reducible repeat (first | apply Kd.N_alloc | apply Kd.N_drewN | apply Kd.N_drew));exact HO_4.out));(case aS => exact (below_size (by exact bB)));(case aL => have := LMc30.out;omega);intro v292 w32 ho hb hg hat;rw [← Ny291.out] at ho;have n0_ := Aside0.mk (Kd.N_afterv (ok := (fun k_ => (w.heap.size ≤ k_) ∧ k_ ≠ gb277)) (by (with_reducible repeat (first | apply Kd.N_alloc | apply Kd.N_drewN | apply Kd.N_drew));exact Kd.N_mono HO_5.out (fun _ hk => ⟨⟨hk.1, hk.2.2⟩, hk.2.1⟩)) hg hat);have n1_ := Aside0.mk (blk_grown (g := gb277) (o := .cells #[.int .i64 a0_0, .slice A0_1 l0_1.length c0_1] 29 (0, 0)) (by exact kP BK277.out) hg (Kd.N_ne HO_4.out BK277.out (by decide)));have n2_ := Aside0.mk (Kd.V_afterv (ok := (fun k_ => (w.heap.size ≤ k_) ∧ some k_ ≠ (.slice (some ad285) t282.length co15 : Value).ownBlock ∧ k_ ≠ gb277)) (by (with_reducible repeat (first | apply Kd.V_alloc | apply Kd.V_drewN | apply Kd.V_drew));exact Kd.V_mono HL290_0.out (fun _ hk => ⟨⟨hk.1.1, ⟨hk.2, hk.1.2.2⟩⟩, hk.1.2.1⟩)) hg hat);have n3_ := Aside0.mk (hb);have n4_ := Aside0.mk (ho);clear HO_5;clear BK277;clear HL290_0;clear HB;clear HO_4;have HO_5 := n0_;have BK277 := n1_;have HL290_0 := n2_;have HB := n3_;have HO293 := n4_;clear n0_ n1_ n2_ n3_ n4_;clear ho hb hg hat))
             go_roundg k2
             case measure => have := HK1.out;have := HK2.out;omega
             case rel => exact ⟨(y291), (wrap64 (x6_1 + 1)), (by first | rfl | (simp;done) | (simp [*];done)), H', ⟨by have := HK1.out;have := HK2.out;omega⟩, ⟨by (with_reducible repeat (first | apply Kd.N_alloc | apply Kd.N_drewN | apply Kd.N_drew));exact HO293.out⟩, ⟨by (with_reducible repeat (first | apply Kd.N_alloc | apply Kd.N_drewN | apply Kd.N_drew));exact Kd.N_mono HO_5.out (fun _ hk => ⟨hk.1.1, ⟨hk.2, hk.1.2⟩⟩)⟩, ⟨by exact kP BK277.out⟩, ⟨by exact bB⟩⟩
            ·rw [if_neg c30] at H
             exact absurd H (by simp)
           ·rw [if_neg c29] at H
            exact absurd H (by simp)
          ·rw [if_neg c28] at H
           exact absurd H (by simp)
         ·replace c27 := Bool.eq_false_iff.mpr c27
          subst c27
          have H1 : (spec_FortsOf.l0 k2 x4_1 t282 (wrap64 (x6_1 + 1)) a0_0 l0_1) = some (r1, r2) := by rw [if_neg (show ¬ (false = true) by decide)] at H;exact H
          clear H
          have H := H1
          clear H1
          have H' := Aside0.mk H
          clear H
          obtain ⟨Ao33, co33, eo33⟩ := Kd.N_slice HO_4.out
          subst eo33
          go_wp2
          go_roundg k2
          case measure => have := HK1.out;have := HK2.out;omega
          case rel => exact ⟨(x4_1), (wrap64 (x6_1 + 1)), (by first | rfl | (simp;done) | (simp [*];done)), H', ⟨by have := HK1.out;have := HK2.out;omega⟩, ⟨by (with_reducible repeat (first | apply Kd.N_alloc | apply Kd.N_drewN | apply Kd.N_drew));exact HO_4.out⟩, ⟨by (with_reducible repeat (first | apply Kd.N_alloc | apply Kd.N_drewN | apply Kd.N_drew));exact HO_5.out⟩, ⟨by exact kP BK277.out⟩, ⟨by exact bB⟩⟩
     ·rw [if_neg c13] at H
      exact absurd H (by simp)
    ·rw [if_neg c12] at H
     have c12b0 : decide (x6_1 < (t282.length : Int)) = false := decide_eq_false c12
     clear c12
     simp only [Option.some.injEq, Prod.mk.injEq] at H
     obtain ⟨rfl, rfl⟩ := H
     obtain ⟨Ao34, co34, eo34⟩ := Kd.N_slice HO_5.out
     subst eo34
     go_wp2
     go_ret2
     exact ⟨_, by first | rfl | (simp [errW_none, errW_some] <;> rfl) | (simp [*, errW_none, errW_some] <;> rfl), by (with_reducible repeat (first | apply Kd.N_alloc | apply Kd.N_drewN | apply Kd.N_drew));exact Kd.N_mono HO_4.out (fun _ hk => hk.1), by exact bB⟩
 ·replace c3 := Bool.eq_false_iff.mpr c3
  subst c3
  have H1 : (some (y278, false)) = some (r1, r2) := by rw [if_neg (show ¬ (false = true) by decide)] at H;exact H
  clear H
  have H := H1
  clear H1
  simp only [Option.some.injEq, Prod.mk.injEq] at H
  obtain ⟨rfl, rfl⟩ := H
  go_enter Try.func30, Try.ntmps30
  go_wp2_with (first | ((with_reducible refine gate_dst (N := 1) rfl ?_);refine box_event ?hg (N := 1) ?hd (cs := #[.int .i64 a0_0, .slice A0_1 l0_1.length c0_1]) (t := 29) ?hr ?_;(case hd => rfl);(case hg => rfl);(case hr => first | (go_simp;done) | (go_simp;rfl));intro gb277 hg w35 hbox hb;have n0_ := Aside0.mk (below_step (by exact bB) hb);have n1_ := Aside0.mk (hbox);have n2_ := Aside0.mk ((by rw [hg];exact (below_size (by exact bB)) : w.heap.size ≤ gb277));have n3_ := Aside0.mk ((by rw [hg];exact (below_size (by exact bB)) : w.heap.size ≤ gb277));clear HB;have HB := n0_;have BK277 := n1_;have GW277 := n2_;have GE277 := n3_;clear n0_ n1_ n2_ n3_;clear hb hbox hg) | ((with_reducible refine gate_dst (N := 9) rfl ?_);refine Kd.N_lit (Kd.slice 3 (Kd.int .i64)) _ 25 ?hg (N' := 9) ?hd (xs := ([] : List (List Int))) (inner := []) (ok := (fun k_ => (w.heap.size ≤ k_) ∧ k_ ≠ gb277)) (okp := (fun k_ => (w.heap.size ≤ k_) ∧ k_ ≠ gb277)) ?hr ?hp (fun _ hk => hk) ((show ∀ k_, w35.heap.size ≤ k_ → (fun k_ => (w.heap.size ≤ k_) ∧ k_ ≠ gb277) k_ from fun k_ hk => ⟨(Nat.le_trans (below_size (by exact bB)) hk), Kd.freshB (g := gb277) (o := .cells #[.int .i64 a0_0, .slice A0_1 l0_1.length c0_1] 29 (0, 0)) (by exact kP BK277.out) k_ hk⟩) _ (Nat.le_refl _)) (Below.refl _ _) (Nat.le_refl _) (by simp) ?_;(case hd => rfl);(case hg => rfl);(case hr => first | (go_simp;done) | (go_simp;rfl));(case hp => exact (Reps.none _ _));intro v279 w36 ho37 hb hg_ hnew_;clear hg_ hnew_;(first | rw [← Ny278.out] at ho37 | (simp only [Int.reduceToNat] at ho37;rw [← Ny278.out] at ho37));have n0_ := Aside0.mk (Kd.N_lower ho37 (below_size (by exact bB)));have n1_ := Aside0.mk (blk_below (g := gb277) (o := .cells #[.int .i64 a0_0, .slice A0_1 l0_1.length c0_1] 29 (0, 0)) (by exact kP BK277.out) hb);have n2_ := Aside0.mk (below_step (by exact bB) hb);clear BK277;clear HB;have HO280 := n0_;have BK277 := n1_;have HB := n2_;clear n0_ n1_ n2_;clear hb ho37;have hcz38_0 : w36.cell? ⟨gb277, 0, none⟩ = some (.int .i64 a0_0) := (blk_cell BK277.out 0).trans rfl;have hcz38_1 : w36.cell? ⟨gb277, 1, none⟩ = some (.slice A0_1 l0_1.length c0_1) := (blk_cell BK277.out 1).trans rfl;have hfz38_0 := blk_frozen BK277.out 0;have hfz38_1 := blk_frozen BK277.out 1) | ((with_reducible refine gate_callee (f := 33) rfl ?_);refine goesL_ (some 11) rfl rfl Try.func33 (by kernel_rfl) rfl #[.agg #[.int .i64 a0_0, .slice A0_1 l0_1.length c0_1]] rfl mM ?_;(with_reducible refine (spec_l2Good.calls a0_0 _ _ l0_1 false _ ?side1 ?side2 A2.out).mono ?_);(case side1 => exact cP (Kd.C_below HR0_1.out HB.out));(case side2 => exact HC0_1.out);rintro e w39 ⟨rfl, hb⟩;refine ⟨_, rfl, ?_⟩;have n0_ := Aside0.mk (Kd.N_below (by (with_reducible repeat (first | apply Kd.N_alloc | apply Kd.N_drewN | apply Kd.N_drew));exact HO280.out) hb);have n1_ := Aside0.mk (blk_below (g := gb277) (o := .cells #[.int .i64 a0_0, .slice A0_1 l0_1.length c0_1] 29 (0, 0)) (by exact kP BK277.out) hb);have n2_ := Aside0.mk (below_step (by exact bB) hb);clear HO280;clear BK277;clear HB;have HO280 := n0_;have BK277 := n1_;have HB := n2_;clear n0_ n1_ n2_;(try clear hb);(try clear hb2);(try clear hk);(try clear hi)))
  go_ret2
  exact ⟨_, by first | rfl | (simp [errW_none, errW_some] <;> rfl) | (simp [*, errW_none, errW_some] <;> rfl), by (with_reducible repeat (first | apply Kd.N_alloc | apply Kd.N_drewN | apply Kd.N_drew));exact Kd.N_mono HO280.out (fun _ hk => hk.1), by exact bB⟩


end Go.Proofs.Ytaddgielnfhhpaa.QFortsOf
