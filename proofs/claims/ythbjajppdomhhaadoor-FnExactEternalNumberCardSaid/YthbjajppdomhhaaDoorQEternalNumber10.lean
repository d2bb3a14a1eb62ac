import Derived.Test.YthbjajppdomhhaaDoorQEternalNumber0
import Derived.Test.YthbjajppdomhhaaDoorQEternalNumber4
import Derived.Test.YthbjajppdomhhaaDoorQEternalNumber5
import Derived.Test.YthbjajppdomhhaaDoorQEternalNumber9
namespace Go.Proofs.YthbjajppdomhhaaDoor.QEternalNumber
open Go.RowKit Go.Proofs.YthbjajppdomhhaaDoorW.PrintWords Go.Proofs.YthbjajppdomhhaaDoorW.PrintLast Go.Proofs.YthbjajppdomhhaaDoorW.PrintMore
attribute [local go_sem] max2_int min2_int max_two min_two max_three min_three max_four min_four   -- for this text's walks alone
set_option linter.unusedVariables false
set_option linter.unusedSimpArgs false
/-! ### spec_l10Table: function 118 -/
mutual
def spec_l10Table.l0 : Nat → List (List Int) → Bool → List (List (List Int)) → Int → Int → List (S92) → Option ((List (List (List Int))))
 | 0, _, _, _, _, _, _ => none
 | k + 1, x1, x2, x7, x8, x267000, x267001 => if x8 < (x1.length : Int) then (spec_l10Table.l1 k x1 x2 x7 x8 (([] : List (List Int))) 0 x267000 x267001) else (some x7)
def spec_l10Table.l1 : Nat → List (List Int) → Bool → List (List (List Int)) → Int → List (List Int) → Int → Int → List (S92) → Option ((List (List (List Int))))
 | 0, _, _, _, _, _, _, _, _ => none
 | k + 1, x1, x2, x7, x8, x9, x10, x267000, x267001 => if x10 < x267000 then (if 0 ≤ x8 then (if x8 < (x1.length : Int) then ((spec_l1Has.f k (rd_L2 x1 x8) x10).bind fun t277 => (if t277 = true then (if x9.length < 5864062014805 then (spec_l10Table.l1 k x1 x2 x7 x8 (x9 ++ [(([] : List Int))]) (wrap64 (x10 + 1)) x267000 x267001) else (none)) else ((spec_l10Answers.f k x267000 x267001 x1 x8 x10 x2).bind fun t284 => (if x9.length < 5864062014805 then (spec_l10Table.l1 k x1 x2 x7 x8 (x9 ++ [t284]) (wrap64 (x10 + 1)) x267000 x267001) else (none))))) else (none)) else (none)) else (if x7.length < 5864062014805 then (spec_l10Table.l0 k x1 x2 (x7 ++ [x9]) (wrap64 (x8 + 1)) x267000 x267001) else (none))
end
def spec_l10Table.f (k : Nat) (a0_0 : Int) (l0_1 : List (S92)) (l1 : List (List Int)) (a2 : Bool) : Option ((List (List (List Int)))) := spec_l10Table.l0 k l1 a2 (([] : List (List (List Int)))) 0 a0_0 l0_1
theorem spec_l10Table.mono_l : ∀ k, (∀ y0 y1 y2 y3 y4 y5, LeO (spec_l10Table.l0 k y0 y1 y2 y3 y4 y5) (spec_l10Table.l0 (k + 1) y0 y1 y2 y3 y4 y5)) ∧ (∀ y0 y1 y2 y3 y4 y5 y6 y7, LeO (spec_l10Table.l1 k y0 y1 y2 y3 y4 y5 y6 y7) (spec_l10Table.l1 (k + 1) y0 y1 y2 y3 y4 y5 y6 y7))
 | 0 => ⟨fun _ _ _ _ _ _ r h => by simp [spec_l10Table.l0] at h, fun _ _ _ _ _ _ _ _ r h => by simp [spec_l10Table.l1] at h⟩
 | k + 1 => by
  obtain ⟨ih0, ih1⟩ := spec_l10Table.mono_l k
  refine ⟨?_, ?_⟩
  ·intro y0 y1 y2 y3 y4 y5
   unfold spec_l10Table.l0
   repeat' first
   | (with_reducible exact ih0 _ _ _ _ _ _)
   | (with_reducible exact ih1 _ _ _ _ _ _ _ _)
   | (with_reducible exact spec_l10Answers.mono _ _ _ _ _ _ _)
   | (with_reducible exact spec_l1Has.mono _ _ _)
   | (with_reducible exact LeO.refl _)
   | (with_reducible exact LeO.none _)
   | (with_reducible refine LeO.ite ?_ ?_)
   | (with_reducible refine LeO.bind ?_ (fun _ => ?_))
   | exact ih0 _ _ _ _ _ _
   | exact ih1 _ _ _ _ _ _ _ _
   | exact spec_l10Answers.mono _ _ _ _ _ _ _
   | exact spec_l1Has.mono _ _ _
   | exact LeO.none _
   | refine LeO.ite ?_ ?_
   | refine LeO.bind ?_ (fun _ => ?_)
  ·intro y0 y1 y2 y3 y4 y5 y6 y7
   unfold spec_l10Table.l1
   repeat' first
   | (with_reducible exact ih0 _ _ _ _ _ _)
   | (with_reducible exact ih1 _ _ _ _ _ _ _ _)
   | (with_reducible exact spec_l10Answers.mono _ _ _ _ _ _ _)
   | (with_reducible exact spec_l1Has.mono _ _ _)
   | (with_reducible exact LeO.refl _)
   | (with_reducible exact LeO.none _)
   | (with_reducible refine LeO.ite ?_ ?_)
   | (with_reducible refine LeO.bind ?_ (fun _ => ?_))
   | exact ih0 _ _ _ _ _ _
   | exact ih1 _ _ _ _ _ _ _ _
   | exact spec_l10Answers.mono _ _ _ _ _ _ _
   | exact spec_l1Has.mono _ _ _
   | exact LeO.none _
   | refine LeO.ite ?_ ?_
   | refine LeO.bind ?_ (fun _ => ?_)
theorem spec_l10Table.mono : ∀ a0 a1 a2 a3 k, LeO (spec_l10Table.f k a0 a1 a2 a3) (spec_l10Table.f (k + 1) a0 a1 a2 a3) := by
 intro a0 a1 a2 a3 k
 obtain ⟨ih0, ih1⟩ := spec_l10Table.mono_l k
 unfold spec_l10Table.f
 repeat' first
   | (with_reducible exact ih0 _ _ _ _ _ _)
   | (with_reducible exact ih1 _ _ _ _ _ _ _ _)
   | (with_reducible exact spec_l10Answers.mono _ _ _ _ _ _ _)
   | (with_reducible exact spec_l1Has.mono _ _ _)
   | (with_reducible exact LeO.refl _)
   | (with_reducible exact LeO.none _)
   | (with_reducible refine LeO.ite ?_ ?_)
   | (with_reducible refine LeO.bind ?_ (fun _ => ?_))
   | exact ih0 _ _ _ _ _ _
   | exact ih1 _ _ _ _ _ _ _ _
   | exact spec_l10Answers.mono _ _ _ _ _ _ _
   | exact spec_l1Has.mono _ _ _
   | exact LeO.none _
   | refine LeO.ite ?_ ?_
   | refine LeO.bind ?_ (fun _ => ?_)
set_option maxHeartbeats 8000000 in
set_option maxRecDepth 100000 in
theorem spec_l10Table.calls (k : Nat) (a0_0 : Int) (A0_1 : Option Addr) (c0_1 : Nat) (l0_1 : List (S92)) (A1 : Option Addr) (c1 : Nat) (l1 : List (List Int)) (a2 : Bool) (r : List (List (List Int))) (w : World) (hr0_1 : Kd.C k92 w A0_1 l0_1.length l0_1) (hc0_1 : l0_1.length ≤ c0_1) (hr1 : Kd.C (Kd.slice 3 (Kd.int .i64)) w A1 l1.length l1) (hc1 : l1.length ≤ c1) (h : spec_l10Table.f k a0_0 l0_1 l1 a2 = some r) :
  Calls Tryd.prog 118 #[.agg #[.int .i64 a0_0, .slice A0_1 l0_1.length c0_1], .slice A1 l1.length c1, .bool a2] w fun e w' => ∃ v0_ : Value, e = .returned (v0_) ∧ Kd.R (Kd.slice 32 (Kd.slice 3 (Kd.int .i64))) 38 w' w.heap.size (fun _ => True) v0_ r ∧ Below w.heap.size w w' := by
 have hu28 := Tryd.underlying28
 have HR0_1 := Aside0.mk hr0_1
 have HC0_1 := Aside0.mk hc0_1
 clear hr0_1 hc0_1
 have HR1 := Aside0.mk hr1
 have HC1 := Aside0.mk hc1
 clear hr1 hc1
 have HB := Aside0.mk (Below.refl w.heap.size w)
 have H : (spec_l10Table.l0 k l1 a2 (([] : List (List (List Int)))) 0 a0_0 l0_1) = some r := h
 clear h
 obtain ⟨y267, hy267⟩ : ∃ y_ : List (List (List Int)), y_ = (([] : List (List (List Int)))) := ⟨_, rfl⟩
 replace H : (spec_l10Table.l0 k l1 a2 y267 0 a0_0 l0_1) = some r := by first | (rw [hy267];with_reducible exact H) | (have H2_ := (Option.bind_some _ _).symm.trans H;rw [hy267];with_reducible exact H2_) | (have H2_ := (Option.bind_some _ _).symm.trans H;with_reducible exact H2_) | with_reducible exact H | (rw [hy267];exact H) | exact H
 have Ny267 := Aside0.mk hy267
 clear hy267
 have H' := Aside0.mk H
 clear H
 go_enter Tryd.func118, Tryd.ntmps118
 go_wp2_with (first | ((with_reducible refine gate_dst (N := 3) rfl ?_);refine box_event ?hg (N := 3) ?hd (cs := #[.int .i64 a0_0, .slice A0_1 l0_1.length c0_1]) (t := 28) ?hr ?_;(case hd => rfl);(case hg => rfl);(case hr => first | (go_simp;done) | (go_simp;rfl));intro gb266 hg w4 hbox hb;have n0_ := Aside0.mk (below_step (by exact bB) hb);have n1_ := Aside0.mk (hbox);have n2_ := Aside0.mk ((by rw [hg];exact (below_size (by exact bB)) : w.heap.size ≤ gb266));have n3_ := Aside0.mk ((by rw [hg];exact (below_size (by exact bB)) : w.heap.size ≤ gb266));clear HB;have HB := n0_;have BK266 := n1_;have GW266 := n2_;have GE266 := n3_;clear n0_ n1_ n2_ n3_;clear hb hbox hg) | ((with_reducible refine gate_dst (N := 11) rfl ?_);refine Kd.R_lit (Kd.slice 32 (Kd.slice 3 (Kd.int .i64))) _ 38 ?hg (N := 11) ?hd (xs := ([] : List (List (List Int)))) (inner := []) (ok := fun _ => True) (okp := fun _ => True) ?hr ?hp (fun _ hk => hk) trivial (Below.refl _ _) (Nat.le_refl _) (by simp) ?_;(case hd => rfl);(case hg => rfl);(case hr => first | (go_simp;done) | (go_simp;rfl));(case hp => exact (Reps.none _ _));intro v268 w5 ho6 hb hg_ hnew_;clear hg_ hnew_;(first | rw [← Ny267.out] at ho6 | (simp only [Int.reduceToNat] at ho6;rw [← Ny267.out] at ho6));have n0_ := Aside0.mk (Kd.R_lower ho6 (below_size (by exact bB)));have n1_ := Aside0.mk (blk_below (g := gb266) (o := .cells #[.int .i64 a0_0, .slice A0_1 l0_1.length c0_1] 28 (0, 0)) (by exact kP BK266.out) hb);have n2_ := Aside0.mk (below_step (by exact bB) hb);clear BK266;clear HB;have HO269 := n0_;have BK266 := n1_;have HB := n2_;clear n0_ n1_ n2_;clear hb ho6))
 go_loopg [7, 8] k (fun kq v7 v8 w' => ∃ (x7_1 : List (List (List Int))) (x8_1 : Int), v8 = .int .i64 x8_1 ∧ Aside0 (spec_l10Table.l0 kq l1 a2 x7_1 x8_1 a0_0 l0_1 = some r) ∧ Aside0 (kq ≤ k) ∧ Aside0 (Kd.R (Kd.slice 32 (Kd.slice 3 (Kd.int .i64))) 38 w' w.heap.size (fun _ => True) v7 x7_1) ∧ Aside0 (w'.heap[gb266]? = some (.cells #[.int .i64 a0_0, (.slice A0_1 l0_1.length c0_1)] 28 (0, 0))) ∧ Aside0 (Below w.heap.size w w'))
 case atStart => exact ⟨(y267), (0), (by first | rfl | (simp;done) | (simp [*];done)), H', ⟨Nat.le_refl _⟩, ⟨by exact rP HO269.out⟩, ⟨by exact kP BK266.out⟩, ⟨by exact bB⟩⟩
 case round =>
  clear H'
  try clear c1
  try clear p2
  obtain ⟨x7_1, x8_1, rfl, HA, HK1, HO_7, BK266, HB⟩ := hrel
  cases gk with
  | zero => exact absurd HA.out (by simp [spec_l10Table.l0])
  | succ k1 =>
   have H := HA.out
   clear HA
   simp only [spec_l10Table.l0] at H
   by_cases c7 : x8_1 < (l1.length : Int)
   ·rw [if_pos c7] at H
    have c7b0 : decide (x8_1 < (l1.length : Int)) = true := decide_eq_true c7
    clear c7
    obtain ⟨y270, hy270⟩ : ∃ y_ : List (List Int), y_ = (([] : List (List Int))) := ⟨_, rfl⟩
    replace H : (spec_l10Table.l1 k1 l1 a2 x7_1 x8_1 y270 0 a0_0 l0_1) = some r := by first | (rw [hy270];with_reducible exact H) | (have H2_ := (Option.bind_some _ _).symm.trans H;rw [hy270];with_reducible exact H2_) | (have H2_ := (Option.bind_some _ _).symm.trans H;with_reducible exact H2_) | with_reducible exact H | (rw [hy270];exact H) | exact H
    have Ny270 := Aside0.mk hy270
    clear hy270
    have H' := Aside0.mk H
    clear H
    go_wp2_with (first | ((with_reducible refine gate_dst (N := 18) rfl ?_);refine Kd.S_lit (Kd.slice 3 (Kd.int .i64)) _ 32 ?hg (N := 18) ?hd (xs := ([] : List (List Int))) (inner := []) (ok := fun _ => True) (okp := fun _ => True) ?hr ?hp (fun _ hk => hk) trivial (Below.refl _ _) (Nat.le_refl _) (by simp) ?_;(case hd => rfl);(case hg => rfl);(case hr => first | (go_simp;done) | (go_simp;rfl));(case hp => exact (Reps.none _ _));intro v271 w8 ho9 hb hg_ hnew_;clear hg_ hnew_;(first | rw [← Ny270.out] at ho9 | (simp only [Int.reduceToNat] at ho9;rw [← Ny270.out] at ho9));have n0_ := Aside0.mk (Kd.R_elder' (by exact rP HO_7.out) (Kd.S_base ho9) hb);have n1_ := Aside0.mk (Kd.S_lower ho9 (below_size (by exact bB)));have n2_ := Aside0.mk (blk_below (g := gb266) (o := .cells #[.int .i64 a0_0, .slice A0_1 l0_1.length c0_1] 28 (0, 0)) (by exact kP BK266.out) hb);have n3_ := Aside0.mk (below_step (by exact bB) hb);clear HO_7;clear BK266;clear HB;have HO_7 := n0_;have HO272 := n1_;have BK266 := n2_;have HB := n3_;clear n0_ n1_ n2_ n3_;clear hb ho9))
    go_loopg [9, 10] k1 (fun kq v9 v10 w' => ∃ (x9_2 : List (List Int)) (x10_2 : Int), v10 = .int .i64 x10_2 ∧ Aside0 (spec_l10Table.l1 kq l1 a2 x7_1 x8_1 x9_2 x10_2 a0_0 l0_1 = some r) ∧ Aside0 (kq ≤ k1) ∧ Aside0 (Kd.R (Kd.slice 32 (Kd.slice 3 (Kd.int .i64))) 38 w' w.heap.size (fun k_ => some k_ ≠ (v9 : Value).ownBlock) u7 x7_1) ∧ Aside0 (Kd.S (Kd.slice 3 (Kd.int .i64)) 32 w' w.heap.size (fun _ => True) v9 x9_2) ∧ Aside0 (w'.heap[gb266]? = some (.cells #[.int .i64 a0_0, (.slice A0_1 l0_1.length c0_1)] 28 (0, 0))) ∧ Aside0 (Below w.heap.size w w'))
    case atStart => exact ⟨(y270), (0), (by first | rfl | (simp;done) | (simp [*];done)), H', ⟨Nat.le_refl _⟩, ⟨by refine rP ?_;exact Kd.R_mono HO_7.out (fun _ hk => hk.2)⟩, ⟨by (with_reducible repeat (first | apply Kd.S_alloc | apply Kd.S_drewN | apply Kd.S_drew));exact HO272.out⟩, ⟨by exact kP BK266.out⟩, ⟨by exact bB⟩⟩
    case round =>
     clear H'
     try clear c1
     try clear p2
     try clear c7
     try clear c7b0
     try clear p2
     obtain ⟨x9_2, x10_2, rfl, HA, HK2, HO_7, HO_9, BK266, HB⟩ := hrel
     cases gk with
     | zero => exact absurd HA.out (by simp [spec_l10Table.l1])
     | succ k2 =>
      have H := HA.out
      clear HA
      simp only [spec_l10Table.l1] at H
      by_cases c10 : x10_2 < a0_0
      ·rw [if_pos c10] at H
       have c10b0 : decide (x10_2 < a0_0) = true := decide_eq_true c10
       clear c10
       by_cases c11 : 0 ≤ x8_1
       ·rw [if_pos c11] at H
        have c11b0 : decide (0 ≤ x8_1) = true := decide_eq_true c11
        clear c11
        by_cases c12 : x8_1 < (l1.length : Int)
        ·rw [if_pos c12] at H
         have c12b0 : decide (x8_1 < (l1.length : Int)) = true := decide_eq_true c12
         clear c12
         replace H := Option.bind_eq_some_iff.mp H
         obtain ⟨t277, A130, H⟩ := H
         replace H : (if t277 = true then (if x9_2.length < 5864062014805 then (spec_l10Table.l1 k2 l1 a2 x7_1 x8_1 (x9_2 ++ [(([] : List Int))]) (wrap64 (x10_2 + 1)) a0_0 l0_1) else (none)) else ((spec_l10Answers.f k2 a0_0 l0_1 l1 x8_1 x10_2 a2).bind fun t284 => (if x9_2.length < 5864062014805 then (spec_l10Table.l1 k2 l1 a2 x7_1 x8_1 (x9_2 ++ [t284]) (wrap64 (x10_2 + 1)) a0_0 l0_1) else (none)))) = some r := H
         have A13 := Aside0.mk A130
         clear A130
         by_cases c14 : t277 = true
         ·subst c14
          have H1 : (if x9_2.length < 5864062014805 then (spec_l10Table.l1 k2 l1 a2 x7_1 x8_1 (x9_2 ++ [(([] : List Int))]) (wrap64 (x10_2 + 1)) a0_0 l0_1) else (none)) = some r := by rw [if_pos rfl] at H;exact H
          clear H
          have H := H1
          clear H1
          obtain ⟨y278, hy278⟩ : ∃ y_ : List Int, y_ = (([] : List Int)) := ⟨_, rfl⟩
          replace H : (if x9_2.length < 5864062014805 then (spec_l10Table.l1 k2 l1 a2 x7_1 x8_1 (x9_2 ++ [y278]) (wrap64 (x10_2 + 1)) a0_0 l0_1) else (none)) = some r := by first | (rw [hy278];with_reducible exact H) | (have H2_ := (Option.bind_some _ _).symm.trans H;rw [hy278];with_reducible exact H2_) | (have H2_ := (Option.bind_some _ _).symm.trans H;with_reducible exact H2_) | with_reducible exact H | (rw [hy278];exact H) | exact H
          have Ny278 := Aside0.mk hy278
          clear hy278
          by_cases c15 : x9_2.length < 5864062014805
          ·rw [if_pos c15] at H
           have LMc15 := Aside0.mk c15
           clear c15
           obtain ⟨y281, hy281⟩ : ∃ y_ : List (List Int), y_ = (x9_2 ++ [y278]) := ⟨_, rfl⟩
           replace H : (spec_l10Table.l1 k2 l1 a2 x7_1 x8_1 y281 (wrap64 (x10_2 + 1)) a0_0 l0_1) = some r := by first | (rw [hy281];with_reducible exact H) | (have H2_ := (Option.bind_some _ _).symm.trans H;rw [hy281];with_reducible exact H2_) | (have H2_ := (Option.bind_some _ _).symm.trans H;with_reducible exact H2_) | with_reducible exact H | (rw [hy281];exact H) | exact H
           have Ny281 := Aside0.mk hy281
           clear hy281
           have H' := Aside0.mk H
           clear H
           have hcz16_0 : wr.cell? ⟨gb266, 0, none⟩ = some (.int .i64 a0_0) := (blk_cell BK266.out 0).trans rfl
           have hcz16_1 : wr.cell? ⟨gb266, 1, none⟩ = some (.slice A0_1 l0_1.length c0_1) := (blk_cell BK266.out 1).trans rfl
           have hfz16_0 := blk_frozen BK266.out 0
           have hfz16_1 := blk_frozen BK266.out 1
           have p276 : 0 ≤ (x8_1 : Int) := oA
           have q276 : x8_1 < (l1.length : Int) := oA
           obtain ⟨ad276, A276_0, c276_0, e276, hx276_0, hl276_0, hi276_0⟩ := at_L2 HR1.out x8_1 p276 q276
           cases e276
           replace hx276_0 := (HB.out.cell (World.block_lt_of_cell? w _ hx276_0)).trans hx276_0
           have HR276_0 := Aside0.mk hi276_0
           have HC276_0 := Aside0.mk hl276_0
           clear hi276_0 hl276_0
           replace p276 := eq_true p276
           replace q276 := eq_true q276
           go_wp2_with (first | ((with_reducible refine gate_callee (f := 69) rfl ?_);refine goesL_ (some 30) rfl rfl Tryd.func69 (by kernel_rfl) rfl #[.slice A276_0 (rd_L2 l1 x8_1).length c276_0, .int .i64 x10_2] rfl mM ?_;(with_reducible refine (spec_l1Has.calls k2 _ _ (rd_L2 l1 x8_1) x10_2 true _ ?side1 ?side2 A13.out).mono ?_);(case side1 => exact cP (Kd.C_below HR276_0.out HB.out));(case side2 => exact HC276_0.out);rintro e w' ⟨rfl, ⟨nd, rfl⟩⟩;refine ⟨_, rfl, ?_⟩) | ((with_reducible refine gate_dst (N := 32) rfl ?_);refine Kd.R_lit (Kd.int .i64) _ 3 ?hg (N := 32) ?hd (xs := ([] : List Int)) (inner := []) (ok := fun _ => True) (okp := fun _ => True) ?hr ?hp (fun _ hk => hk) trivial (Below.refl _ _) (Nat.le_refl _) (by simp) ?_;(case hd => rfl);(case hg => rfl);(case hr => first | (go_simp;done) | (go_simp;rfl));(case hp => exact (Reps.none _ _));intro v279 w17 ho18 hb hg_ hnew_;clear hg_ hnew_;(first | rw [← Ny278.out] at ho18 | (simp only [Int.reduceToNat] at ho18;rw [← Ny278.out] at ho18));have n0_ := Aside0.mk (Kd.R_elder' (by exact rP HO_7.out) (Kd.R_base ho18) hb);have n1_ := Aside0.mk (Kd.S_elder' (by (with_reducible repeat (first | apply Kd.S_alloc | apply Kd.S_drewN | apply Kd.S_drew));exact HO_9.out) (Kd.R_base ho18) hb);have n2_ := Aside0.mk (Kd.R_lower ho18 (below_size (by exact bB)));have n3_ := Aside0.mk (blk_below (g := gb266) (o := .cells #[.int .i64 a0_0, .slice A0_1 l0_1.length c0_1] 28 (0, 0)) (by exact kP BK266.out) hb);have n4_ := Aside0.mk (below_step (by exact bB) hb);clear HO_7;clear HO_9;clear BK266;clear HB;have HO_7 := n0_;have HO_9 := n1_;have HO280 := n2_;have BK266 := n3_;have HB := n4_;clear n0_ n1_ n2_ n3_ n4_;clear hb ho18;obtain ⟨Ao20, co20, eo20⟩ := Kd.R_slice HO280.out;subst eo20) | ((with_reducible refine gate_builtin (b := .append) (xs := #[.tmp 31, .tmp 33]) rfl ?_);at_builtin;refine Kd.S_append (Kd.slice 3 (Kd.int .i64)) (w0 := w) w.heap.size rfl (.tmp 31) (.tmp 33) 38 32 (.slice none 0 0) 24 rfl Tryd.underlying38 info32 rfl (by decide) (by omega) u9 x9_2 y278 [.slice Ao20 y278.length co20] (fun _ => True) (fun k_ => some k_ = (.slice Ao20 y278.length co20 : Value).ownBlock) rfl rfl ?aP (fun k_ hk_ => ((Kd.R_mono (ok' := fun k_ => ((fun _ => True)) k_ ∧ some k_ ≠ (u9 : Value).ownBlock) (Kd.R_apart' (HO280.out) (Kd.S_typed HO_9.out) (by decide)) (fun k_ hk => ⟨trivial, hk.2⟩))).1 k_ hk_.symm) ?aF ?aO ?aB ?aS ?aL ?_;(case aP => exact Kd.M_row (Kd.R_mono (Kd.R_tight rfl (Kd.R_mono (ok' := fun k_ => ((fun _ => True)) k_ ∧ some k_ ≠ (u9 : Value).ownBlock) (Kd.R_apart' (HO280.out) (Kd.S_typed HO_9.out) (by decide)) (fun k_ hk => ⟨trivial, hk.2⟩))) (fun _ h_ => h_)));(case aB => exact (by exact bB));(case aF => exact (fun _ _ => trivial));(case aO => exact (by (with_reducible repeat (first | apply Kd.S_alloc | apply Kd.S_drewN | apply Kd.S_drew));exact Kd.S_mono HO_9.out (fun k_ hk => ⟨trivial, fun e_ => hk.2 e_⟩)));(case aS => exact (below_size (by exact bB)));(case aL => have := LMc15.out;omega);intro v282 w19 ho hb hg hat;rw [← Ny281.out] at ho;have n0_ := Aside0.mk (Kd.R_after (ok := (fun k_ => some k_ ≠ (.slice Ao20 y278.length co20 : Value).ownBlock)) (by exact rP (Kd.R_mono HO_7.out (fun _ hk => ⟨hk.2, hk.1⟩))) hg hat);have n1_ := Aside0.mk (blk_grown (g := gb266) (o := .cells #[.int .i64 a0_0, .slice A0_1 l0_1.length c0_1] 28 (0, 0)) (by exact kP BK266.out) hg (Kd.S_ne HO_9.out BK266.out (by decide)));have n2_ := Aside0.mk (hb);have n3_ := Aside0.mk (ho);clear HO_7;clear BK266;clear HB;clear HO_9;clear HO280;have HO_7 := n0_;have BK266 := n1_;have HB := n2_;have HO283 := n3_;clear n0_ n1_ n2_ n3_;clear ho hb hg hat))
           go_roundg k2
           case measure => have := HK1.out;have := HK2.out;omega
           case rel => exact ⟨(y281), (wrap64 (x10_2 + 1)), (by first | rfl | (simp;done) | (simp [*];done)), H', ⟨by have := HK1.out;have := HK2.out;omega⟩, ⟨by refine rP ?_;exact Kd.R_mono HO_7.out (fun _ hk => hk.2)⟩, ⟨by (with_reducible repeat (first | apply Kd.S_alloc | apply Kd.S_drewN | apply Kd.S_drew));exact HO283.out⟩, ⟨by exact kP BK266.out⟩, ⟨by exact bB⟩⟩
          ·rw [if_neg c15] at H
           exact absurd H (by simp)
         ·replace c14 := Bool.eq_false_iff.mpr c14
          subst c14
          have H1 : ((spec_l10Answers.f k2 a0_0 l0_1 l1 x8_1 x10_2 a2).bind fun t284 => (if x9_2.length < 5864062014805 then (spec_l10Table.l1 k2 l1 a2 x7_1 x8_1 (x9_2 ++ [t284]) (wrap64 (x10_2 + 1)) a0_0 l0_1) else (none))) = some r := by rw [if_neg (show ¬ (false = true) by decide)] at H;exact H
          clear H
          have H := H1
          clear H1
          replace H := Option.bind_eq_some_iff.mp H
          obtain ⟨t284, A210, H⟩ := H
          replace H : (if x9_2.length < 5864062014805 then (spec_l10Table.l1 k2 l1 a2 x7_1 x8_1 (x9_2 ++ [t284]) (wrap64 (x10_2 + 1)) a0_0 l0_1) else (none)) = some r := H
          have A21 := Aside0.mk A210
          clear A210
          by_cases c22 : x9_2.length < 5864062014805
          ·rw [if_pos c22] at H
           have LMc22 := Aside0.mk c22
           clear c22
           obtain ⟨y287, hy287⟩ : ∃ y_ : List (List Int), y_ = (x9_2 ++ [t284]) := ⟨_, rfl⟩
           replace H : (spec_l10Table.l1 k2 l1 a2 x7_1 x8_1 y287 (wrap64 (x10_2 + 1)) a0_0 l0_1) = some r := by first | (rw [hy287];with_reducible exact H) | (have H2_ := (Option.bind_some _ _).symm.trans H;rw [hy287];with_reducible exact H2_) | (have H2_ := (Option.bind_some _ _).symm.trans H;with_reducible exact H2_) | with_reducible exact H | (rw [hy287];exact H) | exact H
           have Ny287 := Aside0.mk hy287
           clear hy287
           have H' := Aside0.mk H
           clear H
           have hcz23_0 : wr.cell? ⟨gb266, 0, none⟩ = some (.int .i64 a0_0) := (blk_cell BK266.out 0).trans rfl
           have hcz23_1 : wr.cell? ⟨gb266, 1, none⟩ = some (.slice A0_1 l0_1.length c0_1) := (blk_cell BK266.out 1).trans rfl
           have hfz23_0 := blk_frozen BK266.out 0
           have hfz23_1 := blk_frozen BK266.out 1
           have p276 : 0 ≤ (x8_1 : Int) := oA
           have q276 : x8_1 < (l1.length : Int) := oA
           obtain ⟨ad276, A276_0, c276_0, e276, hx276_0, hl276_0, hi276_0⟩ := at_L2 HR1.out x8_1 p276 q276
           cases e276
           replace hx276_0 := (HB.out.cell (World.block_lt_of_cell? w _ hx276_0)).trans hx276_0
           have HR276_0 := Aside0.mk hi276_0
           have HC276_0 := Aside0.mk hl276_0
           clear hi276_0 hl276_0
           replace p276 := eq_true p276
           replace q276 := eq_true q276
           go_wp2_with (first | ((with_reducible refine gate_callee (f := 69) rfl ?_);refine goesL_ (some 30) rfl rfl Tryd.func69 (by kernel_rfl) rfl #[.slice A276_0 (rd_L2 l1 x8_1).length c276_0, .int .i64 x10_2] rfl mM ?_;(with_reducible refine (spec_l1Has.calls k2 _ _ (rd_L2 l1 x8_1) x10_2 false _ ?side1 ?side2 A13.out).mono ?_);(case side1 => exact cP (Kd.C_below HR276_0.out HB.out));(case side2 => exact HC276_0.out);rintro e w' ⟨rfl, ⟨nd, rfl⟩⟩;refine ⟨_, rfl, ?_⟩) | ((with_reducible refine gate_callee (f := 71) rfl ?_);refine goesL_ (some 41) rfl rfl Tryd.func71 (by kernel_rfl) rfl #[.agg #[.int .i64 a0_0, .slice A0_1 l0_1.length c0_1], .slice (some ad276) l1.length c1, .int .i64 x8_1, .int .i64 x10_2, .bool a2] rfl mM ?_;(with_reducible refine (spec_l10Answers.calls k2 a0_0 _ _ l0_1 _ _ l1 x8_1 x10_2 a2 t284 _ ?side1 ?side2 ?side3 ?side4 A21.out).mono ?_);(case side1 => exact cP (Kd.C_below HR0_1.out (by repeat (first | (with_reducible first | exact HB.out | apply below_alloc | apply pw_below_drewN | apply below_drew1 | refine below_set ?_ GE266.out) | exact HB.out))));(case side2 => exact HC0_1.out);(case side3 => exact cP (Kd.C_below HR1.out (by repeat (first | (with_reducible first | exact HB.out | apply below_alloc | apply pw_below_drewN | apply below_drew1 | refine below_set ?_ GE266.out) | exact HB.out))));(case side4 => exact HC1.out);rintro e w24 ⟨v285, rfl, ho0, hb⟩;refine ⟨_, rfl, ?_⟩;have n0_ := Aside0.mk (Kd.R_elder' (by exact rP HO_7.out) (Kd.R_base ho0) hb);have n1_ := Aside0.mk (Kd.S_elder' (by (with_reducible repeat (first | apply Kd.S_alloc | apply Kd.S_drewN | apply Kd.S_drew));exact HO_9.out) (Kd.R_base ho0) hb);have n2_ := Aside0.mk (Kd.R_lower ho0 (below_size (by exact bB)));have n3_ := Aside0.mk (blk_below (g := gb266) (o := .cells #[.int .i64 a0_0, .slice A0_1 l0_1.length c0_1] 28 (0, 0)) (by exact kP BK266.out) hb);have n4_ := Aside0.mk (below_step (by exact bB) hb);clear HO_7;clear HO_9;clear BK266;clear HB;have HO_7 := n0_;have HO_9 := n1_;have HO286 := n2_;have BK266 := n3_;have HB := n4_;clear n0_ n1_ n2_ n3_ n4_;(try clear hb);(try clear hb2);(try clear hk);(try clear hi);(try clear ho0);obtain ⟨Ao26, co26, eo26⟩ := Kd.R_slice HO286.out;subst eo26) | ((with_reducible refine gate_builtin (b := .append) (xs := #[.tmp 35, .tmp 42]) rfl ?_);at_builtin;refine Kd.S_append (Kd.slice 3 (Kd.int .i64)) (w0 := w) w.heap.size rfl (.tmp 35) (.tmp 42) 38 32 (.slice none 0 0) 24 rfl Tryd.underlying38 info32 rfl (by decide) (by omega) u9 x9_2 t284 [.slice Ao26 t284.length co26] (fun _ => True) (fun k_ => some k_ = (.slice Ao26 t284.length co26 : Value).ownBlock) rfl rfl ?aP (fun k_ hk_ => ((Kd.R_mono (ok' := fun k_ => ((fun _ => True)) k_ ∧ some k_ ≠ (u9 : Value).ownBlock) (Kd.R_apart' (HO286.out) (Kd.S_typed HO_9.out) (by decide)) (fun k_ hk => ⟨trivial, hk.2⟩))).1 k_ hk_.symm) ?aF ?aO ?aB ?aS ?aL ?_;(case aP => exact Kd.M_row (Kd.R_mono (Kd.R_tight rfl (Kd.R_mono (ok' := fun k_ => ((fun _ => True)) k_ ∧ some k_ ≠ (u9 : Value).ownBlock) (Kd.R_apart' (HO286.out) (Kd.S_typed HO_9.out) (by decide)) (fun k_ hk => ⟨trivial, hk.2⟩))) (fun _ h_ => h_)));(case aB => exact (by exact bB));(case aF => exact (fun _ _ => trivial));(case aO => exact (by (with_reducible repeat (first | apply Kd.S_alloc | apply Kd.S_drewN | apply Kd.S_drew));exact Kd.S_mono HO_9.out (fun k_ hk => ⟨trivial, fun e_ => hk.2 e_⟩)));(case aS => exact (below_size (by exact bB)));(case aL => have := LMc22.out;omega);intro v288 w25 ho hb hg hat;rw [← Ny287.out] at ho;have n0_ := Aside0.mk (Kd.R_after (ok := (fun k_ => some k_ ≠ (.slice Ao26 t284.length co26 : Value).ownBlock)) (by exact rP (Kd.R_mono HO_7.out (fun _ hk => ⟨hk.2, hk.1⟩))) hg hat);have n1_ := Aside0.mk (blk_grown (g := gb266) (o := .cells #[.int .i64 a0_0, .slice A0_1 l0_1.length c0_1] 28 (0, 0)) (by exact kP BK266.out) hg (Kd.S_ne HO_9.out BK266.out (by decide)));have n2_ := Aside0.mk (hb);have n3_ := Aside0.mk (ho);clear HO_7;clear BK266;clear HB;clear HO_9;clear HO286;have HO_7 := n0_;have BK266 := n1_;have HB := n2_;have HO289 := n3_;clear n0_ n1_ n2_ n3_;clear ho hb hg hat))
           go_roundg k2
           case measure => have := HK1.out;have := HK2.out;omega
           case rel => exact ⟨(y287), (wrap64 (x10_2 + 1)), (by first | rfl | (simp;done) | (simp [*];done)), H', ⟨by have := HK1.out;have := HK2.out;omega⟩, ⟨by refine rP ?_;exact Kd.R_mono HO_7.out (fun _ hk => hk.2)⟩, ⟨by (with_reducible repeat (first | apply Kd.S_alloc | apply Kd.S_drewN | apply Kd.S_drew));exact HO289.out⟩, ⟨by exact kP BK266.out⟩, ⟨by exact bB⟩⟩
          ·rw [if_neg c22] at H
           exact absurd H (by simp)
        ·rw [if_neg c12] at H
         exact absurd H (by simp)
       ·rw [if_neg c11] at H
        exact absurd H (by simp)
      ·rw [if_neg c10] at H
       have c10b0 : decide (x10_2 < a0_0) = false := decide_eq_false c10
       clear c10
       by_cases c27 : x7_1.length < 5864062014805
       ·rw [if_pos c27] at H
        have LMc27 := Aside0.mk c27
        clear c27
        obtain ⟨y273, hy273⟩ : ∃ y_ : List (List (List Int)), y_ = (x7_1 ++ [x9_2]) := ⟨_, rfl⟩
        replace H : (spec_l10Table.l0 k2 l1 a2 y273 (wrap64 (x8_1 + 1)) a0_0 l0_1) = some r := by first | (rw [hy273];with_reducible exact H) | (have H2_ := (Option.bind_some _ _).symm.trans H;rw [hy273];with_reducible exact H2_) | (have H2_ := (Option.bind_some _ _).symm.trans H;with_reducible exact H2_) | with_reducible exact H | (rw [hy273];exact H) | exact H
        have Ny273 := Aside0.mk hy273
        clear hy273
        have H' := Aside0.mk H
        clear H
        have hcz28_0 : wr.cell? ⟨gb266, 0, none⟩ = some (.int .i64 a0_0) := (blk_cell BK266.out 0).trans rfl
        have hcz28_1 : wr.cell? ⟨gb266, 1, none⟩ = some (.slice A0_1 l0_1.length c0_1) := (blk_cell BK266.out 1).trans rfl
        have hfz28_0 := blk_frozen BK266.out 0
        have hfz28_1 := blk_frozen BK266.out 1
        obtain ⟨Ao30, co30, eo30⟩ := Kd.S_slice HO_9.out
        subst eo30
        go_wp2_with (first | ((with_reducible refine gate_builtin (b := .append) (xs := #[.tmp 44, .tmp 46]) rfl ?_);at_builtin;refine Kd.R_append (Kd.slice 32 (Kd.slice 3 (Kd.int .i64))) (w0 := w) w.heap.size rfl (.tmp 44) (.tmp 46) 120 38 (.slice none 0 0) 24 rfl Tryd.underlying120 info38 rfl (by decide) (by omega) u7 x7_1 x9_2 [.slice Ao30 x9_2.length co30] (fun _ => True) (fun k_ => ((fun _ => True)) k_ ∧ some k_ ≠ (u7 : Value).ownBlock) rfl rfl ?aP (fun _ hk => hk) ?aF ?aO ?aB ?aS ?aL ?_;(case aP => exact Kd.M_row (Kd.R_mono (Kd.R_apart' ((Kd.S_R HO_9.out)) (Kd.R_typed HO_7.out) (by decide)) (fun k_ hk => ⟨trivial, hk.2⟩)));(case aB => exact (by exact bB));(case aF => exact (fun _ _ => trivial));(case aO => exact (by refine rP ?_;exact Kd.R_mono HO_7.out (fun _ hk => trivial)));(case aS => exact (below_size (by exact bB)));(case aL => have := LMc27.out;omega);intro v274 w29 ho hb hg hat;rw [← Ny273.out] at ho;have n0_ := Aside0.mk (blk_grown (g := gb266) (o := .cells #[.int .i64 a0_0, .slice A0_1 l0_1.length c0_1] 28 (0, 0)) (by exact kP BK266.out) hg (Kd.R_ne HO_7.out BK266.out (by decide)));have n1_ := Aside0.mk (hb);have n2_ := Aside0.mk (ho);clear BK266;clear HB;clear HO_7;clear HO_9;have BK266 := n0_;have HB := n1_;have HO275 := n2_;clear n0_ n1_ n2_;clear ho hb hg hat))
        go_roundg k2
        case measure => have := HK1.out;have := HK2.out;omega
        case rel => exact ⟨(y273), (wrap64 (x8_1 + 1)), (by first | rfl | (simp;done) | (simp [*];done)), H', ⟨by have := HK1.out;have := HK2.out;omega⟩, ⟨by exact rP HO275.out⟩, ⟨by exact kP BK266.out⟩, ⟨by exact bB⟩⟩
       ·rw [if_neg c27] at H
        exact absurd H (by simp)
   ·rw [if_neg c7] at H
    have c7b0 : decide (x8_1 < (l1.length : Int)) = false := decide_eq_false c7
    clear c7
    obtain rfl := Option.some.inj H
    go_wp2
    go_ret
    exact ⟨_, by first | rfl | (simp [errW_none, errW_some] <;> rfl) | (simp [*, errW_none, errW_some] <;> rfl), by exact rP HO_7.out, by exact bB⟩


/-! ### spec_l10Known: function 78 -/
def spec_l10Known.f (k : Nat) (a0_0 : Int) (l0_1 : List (S92)) (a1 : Int) (a2 : Bool) : Option (List Int) := (spec_l10Sets.f k a0_0 l0_1 a1).bind fun t291 => ((spec_l10Table.f k a0_0 l0_1 t291 a2).bind fun t294 => ((spec_l10Resist.f k t291 t294).bind fun t297 => (some t297)))
theorem spec_l10Known.mono : ∀ a0 a1 a2 a3 k, LeO (spec_l10Known.f k a0 a1 a2 a3) (spec_l10Known.f (k + 1) a0 a1 a2 a3) := by
 intro a0 a1 a2 a3 k
 unfold spec_l10Known.f
 repeat' first
   | (with_reducible exact spec_l10Resist.mono _ _ _)
   | (with_reducible exact spec_l10Sets.mono _ _ _ _)
   | (with_reducible exact spec_l10Table.mono _ _ _ _ _)
   | (with_reducible exact LeO.refl _)
   | (with_reducible exact LeO.none _)
   | (with_reducible refine LeO.ite ?_ ?_)
   | (with_reducible refine LeO.bind ?_ (fun _ => ?_))
   | exact spec_l10Resist.mono _ _ _
   | exact spec_l10Sets.mono _ _ _ _
   | exact spec_l10Table.mono _ _ _ _ _
   | exact LeO.none _
   | refine LeO.ite ?_ ?_
   | refine LeO.bind ?_ (fun _ => ?_)
set_option maxHeartbeats 8000000 in
set_option maxRecDepth 100000 in
theorem spec_l10Known.calls (k : Nat) (a0_0 : Int) (A0_1 : Option Addr) (c0_1 : Nat) (l0_1 : List (S92)) (a1 : Int) (a2 : Bool) (r : List Int) (w : World) (hr0_1 : Kd.C k92 w A0_1 l0_1.length l0_1) (hc0_1 : l0_1.length ≤ c0_1) (h : spec_l10Known.f k a0_0 l0_1 a1 a2 = some r) :
  Calls Tryd.prog 78 #[.agg #[.int .i64 a0_0, .slice A0_1 l0_1.length c0_1], .int .i64 a1, .bool a2] w fun e w' => ∃ v0_ : Value, e = .returned (v0_) ∧ Kd.R (Kd.int .i64) 3 w' w.heap.size (fun _ => True) v0_ r ∧ Below w.heap.size w w' := by
 have hu28 := Tryd.underlying28
 have HR0_1 := Aside0.mk hr0_1
 have HC0_1 := Aside0.mk hc0_1
 clear hr0_1 hc0_1
 have HB := Aside0.mk (Below.refl w.heap.size w)
 have H : ((spec_l10Sets.f k a0_0 l0_1 a1).bind fun t291 => ((spec_l10Table.f k a0_0 l0_1 t291 a2).bind fun t294 => ((spec_l10Resist.f k t291 t294).bind fun t297 => (some t297)))) = some r := h
 clear h
 replace H := Option.bind_eq_some_iff.mp H
 obtain ⟨t291, A40, H⟩ := H
 replace H : ((spec_l10Table.f k a0_0 l0_1 t291 a2).bind fun t294 => ((spec_l10Resist.f k t291 t294).bind fun t297 => (some t297))) = some r := H
 have A4 := Aside0.mk A40
 clear A40
 replace H := Option.bind_eq_some_iff.mp H
 obtain ⟨t294, A50, H⟩ := H
 replace H : ((spec_l10Resist.f k t291 t294).bind fun t297 => (some t297)) = some r := H
 have A5 := Aside0.mk A50
 clear A50
 replace H := Option.bind_eq_some_iff.mp H
 obtain ⟨t297, A60, H⟩ := H
 replace H : (some t297) = some r := H
 have A6 := Aside0.mk A60
 clear A60
 obtain rfl := Option.some.inj H
 go_enter Tryd.func78, Tryd.ntmps78
 go_wp2_with (first | ((with_reducible refine gate_dst (N := 3) rfl ?_);refine box_event ?hg (N := 3) ?hd (cs := #[.int .i64 a0_0, .slice A0_1 l0_1.length c0_1]) (t := 28) ?hr ?_;(case hd => rfl);(case hg => rfl);(case hr => first | (go_simp;done) | (go_simp;rfl));intro gb290 hg w7 hbox hb;have n0_ := Aside0.mk (below_step (by exact bB) hb);have n1_ := Aside0.mk (hbox);have n2_ := Aside0.mk ((by rw [hg];exact (below_size (by exact bB)) : w.heap.size ≤ gb290));have n3_ := Aside0.mk ((by rw [hg];exact (below_size (by exact bB)) : w.heap.size ≤ gb290));clear HB;have HB := n0_;have BK290 := n1_;have GW290 := n2_;have GE290 := n3_;clear n0_ n1_ n2_ n3_;clear hb hbox hg;have hcz8_0 : w7.cell? ⟨gb290, 0, none⟩ = some (.int .i64 a0_0) := (blk_cell BK290.out 0).trans rfl;have hcz8_1 : w7.cell? ⟨gb290, 1, none⟩ = some (.slice A0_1 l0_1.length c0_1) := (blk_cell BK290.out 1).trans rfl;have hfz8_0 := blk_frozen BK290.out 0;have hfz8_1 := blk_frozen BK290.out 1) | ((with_reducible refine gate_callee (f := 70) rfl ?_);refine goesL_ (some 10) rfl rfl Tryd.func70 (by kernel_rfl) rfl #[.agg #[.int .i64 a0_0, .slice A0_1 l0_1.length c0_1], .int .i64 a1] rfl mM ?_;(with_reducible refine (spec_l10Sets.calls k a0_0 _ _ l0_1 a1 t291 _ ?side1 ?side2 A4.out).mono ?_);(case side1 => exact cP (Kd.C_below HR0_1.out HB.out));(case side2 => exact HC0_1.out);rintro e w9 ⟨v292, rfl, ho0, hb⟩;refine ⟨_, rfl, ?_⟩;have n0_ := Aside0.mk (Kd.N_lower (Kd.N_mono (ok' := fun k_ => k_ ≠ gb290) ho0 (fun k_ hk_ => (Kd.freshB (g := gb290) (o := .cells #[.int .i64 a0_0, .slice A0_1 l0_1.length c0_1] 28 (0, 0)) (by exact kP BK290.out) k_ hk_))) (below_size (by exact bB)));have n1_ := Aside0.mk (blk_below (g := gb290) (o := .cells #[.int .i64 a0_0, .slice A0_1 l0_1.length c0_1] 28 (0, 0)) (by exact kP BK290.out) hb);have n2_ := Aside0.mk (below_step (by exact bB) hb);clear BK290;clear HB;have HO293 := n0_;have BK290 := n1_;have HB := n2_;clear n0_ n1_ n2_;(try clear hb);(try clear hb2);(try clear hk);(try clear hi);(try clear ho0);have hcz10_0 : w9.cell? ⟨gb290, 0, none⟩ = some (.int .i64 a0_0) := (blk_cell BK290.out 0).trans rfl;have hcz10_1 : w9.cell? ⟨gb290, 1, none⟩ = some (.slice A0_1 l0_1.length c0_1) := (blk_cell BK290.out 1).trans rfl;have hfz10_0 := blk_frozen BK290.out 0;have hfz10_1 := blk_frozen BK290.out 1;obtain ⟨Ao11, co11, eo11⟩ := Kd.N_slice HO293.out;subst eo11) | ((with_reducible refine gate_callee (f := 118) rfl ?_);refine goesL_ (some 15) rfl rfl Tryd.func118 (by kernel_rfl) rfl #[.agg #[.int .i64 a0_0, .slice A0_1 l0_1.length c0_1], .slice Ao11 t291.length co11, .bool a2] rfl mM ?_;(with_reducible refine (spec_l10Table.calls k a0_0 _ _ l0_1 _ _ t291 a2 t294 _ ?side1 ?side2 ?side3 ?side4 A5.out).mono ?_);(case side1 => exact cP (Kd.C_below HR0_1.out HB.out));(case side2 => exact HC0_1.out);(case side3 => exact cP (Kd.N_reads' HO293.out).2.2);(case side4 => exact (Kd.N_reads' HO293.out).2.1);rintro e w12 ⟨v295, rfl, ho0, hb⟩;refine ⟨_, rfl, ?_⟩;have n0_ := Aside0.mk (Kd.N_elder' (by (with_reducible repeat (first | apply Kd.N_alloc | apply Kd.N_drewN | apply Kd.N_drew));exact HO293.out) (Kd.R_base ho0) hb);have n1_ := Aside0.mk (Kd.N_lower (Kd.N_mono (ok' := fun k_ => some k_ ≠ (.slice Ao11 t291.length co11 : Value).ownBlock ∧ k_ ≠ gb290) (Kd.R_N (Kd.R_bound ho0)) (fun k_ hk_ => ⟨(Kd.fresh' (Kd.N_lt (by (with_reducible repeat (first | apply Kd.N_alloc | apply Kd.N_drewN | apply Kd.N_drew));exact HO293.out)) k_ hk_.2.1), (Kd.freshB (g := gb290) (o := .cells #[.int .i64 a0_0, .slice A0_1 l0_1.length c0_1] 28 (0, 0)) (by exact kP BK290.out) k_ hk_.2.1)⟩)) (below_size (by exact bB)));have n2_ := Aside0.mk (blk_below (g := gb290) (o := .cells #[.int .i64 a0_0, .slice A0_1 l0_1.length c0_1] 28 (0, 0)) (by exact kP BK290.out) hb);have n3_ := Aside0.mk (below_step (by exact bB) hb);clear HO293;clear BK290;clear HB;have HO293 := n0_;have HO296 := n1_;have BK290 := n2_;have HB := n3_;clear n0_ n1_ n2_ n3_;(try clear hb);(try clear hb2);(try clear hk);(try clear hi);(try clear ho0);obtain ⟨Ao13, co13, eo13⟩ := Kd.N_slice HO296.out;subst eo13) | ((with_reducible refine gate_callee (f := 117) rfl ?_);refine goesL_ (some 16) rfl rfl Tryd.func117 (by kernel_rfl) rfl #[.slice Ao11 t291.length co11, .slice Ao13 t294.length co13] rfl mM ?_;(with_reducible refine (spec_l10Resist.calls k _ _ t291 _ _ t294 t297 _ ?side1 ?side2 ?side3 ?side4 A6.out).mono ?_);(case side1 => exact cP (Kd.N_reads' HO293.out).2.2);(case side2 => exact (Kd.N_reads' HO293.out).2.1);(case side3 => exact cP (Kd.N_reads' HO296.out).2.2);(case side4 => exact (Kd.N_reads' HO296.out).2.1);rintro e w14 ⟨v298, rfl, ho0, hb⟩;refine ⟨_, rfl, ?_⟩;have n0_ := Aside0.mk (Kd.N_elder' (by (with_reducible repeat (first | apply Kd.N_alloc | apply Kd.N_drewN | apply Kd.N_drew));exact HO293.out) (Kd.R_base ho0) hb);have n1_ := Aside0.mk (Kd.N_elder' (by (with_reducible repeat (first | apply Kd.N_alloc | apply Kd.N_drewN | apply Kd.N_drew));exact HO296.out) (Kd.R_base ho0) hb);have n2_ := Aside0.mk (Kd.R_lower ho0 (below_size (by exact bB)));have n3_ := Aside0.mk (blk_below (g := gb290) (o := .cells #[.int .i64 a0_0, .slice A0_1 l0_1.length c0_1] 28 (0, 0)) (by exact kP BK290.out) hb);have n4_ := Aside0.mk (below_step (by exact bB) hb);clear HO293;clear HO296;clear BK290;clear HB;have HO293 := n0_;have HO296 := n1_;have HO299 := n2_;have BK290 := n3_;have HB := n4_;clear n0_ n1_ n2_ n3_ n4_;(try clear hb);(try clear hb2);(try clear hk);(try clear hi);(try clear ho0)))
 go_ret
 exact ⟨_, by first | rfl | (simp [errW_none, errW_some] <;> rfl) | (simp [*, errW_none, errW_some] <;> rfl), by exact rP HO299.out, by exact bB⟩


end Go.Proofs.YthbjajppdomhhaaDoor.QEternalNumber
