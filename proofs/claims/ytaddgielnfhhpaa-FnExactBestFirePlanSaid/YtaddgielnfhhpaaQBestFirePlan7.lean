import Derived.Test.YtaddgielnfhhpaaQBestFirePlan0
import Derived.Test.YtaddgielnfhhpaaQBestFirePlan4
namespace Go.Proofs.Ytaddgielnfhhpaa.QBestFirePlan
open Go.RowKit Go.Proofs.YtaddgielnfhhpaaW.PrintWords Go.Proofs.YtaddgielnfhhpaaW.PrintLast Go.Proofs.YtaddgielnfhhpaaW.PrintMore
attribute [local go_sem] max2_int min2_int max_two min_two max_three min_three max_four min_four   -- for this text's walks alone
set_option linter.unusedVariables false
set_option linter.unusedSimpArgs false
/-! ### spec_l8Free: function 82 -/
def spec_l8Free.l0 : Nat → List Int → Int → Int → List (S80) → List Int → List Int → Option (List Int)
 | 0, _, _, _, _, _, _ => none
 | k + 1, x5, x6, x169000, x169001, x170000, x170001 => if x6 < x169000 then ((spec_l1Has.f k x170000 x6).bind fun t173 => (if t173 = true then (spec_l8Free.l0 k x5 (wrap64 (x6 + 1)) x169000 x169001 x170000 x170001) else ((spec_l1Has.f k x170001 x6).bind fun t174 => (if t174 = true then (spec_l8Free.l0 k x5 (wrap64 (x6 + 1)) x169000 x169001 x170000 x170001) else (if x5.length < 17592186044416 then (spec_l8Free.l0 k (x5 ++ [x6]) (wrap64 (x6 + 1)) x169000 x169001 x170000 x170001) else (none)))))) else (some x5)
def spec_l8Free.f (k : Nat) (a0_0 : Int) (l0_1 : List (S80)) (l1_0 : List Int) (l1_1 : List Int) : Option (List Int) := spec_l8Free.l0 k (([] : List Int)) 0 a0_0 l0_1 l1_0 l1_1
theorem spec_l8Free.mono_l : ∀ k, (∀ y0 y1 y2 y3 y4 y5, LeO (spec_l8Free.l0 k y0 y1 y2 y3 y4 y5) (spec_l8Free.l0 (k + 1) y0 y1 y2 y3 y4 y5))
 | 0 => fun _ _ _ _ _ _ r h => by simp [spec_l8Free.l0] at h
 | k + 1 => by
  have ih0 := spec_l8Free.mono_l k
  ·intro y0 y1 y2 y3 y4 y5
   unfold spec_l8Free.l0
   repeat' first
   | (with_reducible exact ih0 _ _ _ _ _ _)
   | (with_reducible exact spec_l1Has.mono _ _ _)
   | (with_reducible exact LeO.refl _)
   | (with_reducible exact LeO.none _)
   | (with_reducible refine LeO.ite ?_ ?_)
   | (with_reducible refine LeO.bind ?_ (fun _ => ?_))
   | exact ih0 _ _ _ _ _ _
   | exact spec_l1Has.mono _ _ _
   | exact LeO.none _
   | refine LeO.ite ?_ ?_
   | refine LeO.bind ?_ (fun _ => ?_)
theorem spec_l8Free.mono : ∀ a0 a1 a2 a3 k, LeO (spec_l8Free.f k a0 a1 a2 a3) (spec_l8Free.f (k + 1) a0 a1 a2 a3) := by
 intro a0 a1 a2 a3 k
 have ih0 := spec_l8Free.mono_l k
 unfold spec_l8Free.f
 repeat' first
   | (with_reducible exact ih0 _ _ _ _ _ _)
   | (with_reducible exact spec_l1Has.mono _ _ _)
   | (with_reducible exact LeO.refl _)
   | (with_reducible exact LeO.none _)
   | (with_reducible refine LeO.ite ?_ ?_)
   | (with_reducible refine LeO.bind ?_ (fun _ => ?_))
   | exact ih0 _ _ _ _ _ _
   | exact spec_l1Has.mono _ _ _
   | exact LeO.none _
   | refine LeO.ite ?_ ?_
   | refine LeO.bind ?_ (fun _ => ?_)
set_option maxHeartbeats 8000000 in
set_option maxRecDepth 100000 in
theorem spec_l8Free.calls (k : Nat) (a0_0 : Int) (A0_1 : Option Addr) (c0_1 : Nat) (l0_1 : List (S80)) (A1_0 : Option Addr) (c1_0 : Nat) (l1_0 : List Int) (A1_1 : Option Addr) (c1_1 : Nat) (l1_1 : List Int) (r : List Int) (w : World) (hr0_1 : Kd.C k80 w A0_1 l0_1.length l0_1) (hc0_1 : l0_1.length ≤ c0_1) (hr1_0 : Kd.C (Kd.int .i64) w A1_0 l1_0.length l1_0) (hc1_0 : l1_0.length ≤ c1_0) (hr1_1 : Kd.C (Kd.int .i64) w A1_1 l1_1.length l1_1) (hc1_1 : l1_1.length ≤ c1_1) (h : spec_l8Free.f k a0_0 l0_1 l1_0 l1_1 = some r) :
  Calls Try.prog 82 #[.agg #[.int .i64 a0_0, .slice A0_1 l0_1.length c0_1], .agg #[.slice A1_0 l1_0.length c1_0, .slice A1_1 l1_1.length c1_1]] w fun e w' => ∃ v0_ : Value, e = .returned (v0_) ∧ Kd.R (Kd.int .i64) 3 w' w.heap.size (fun _ => True) v0_ r ∧ Below w.heap.size w w' := by
 have hu29 := Try.underlying29
 have hu70 := Try.underlying70
 have HR0_1 := Aside0.mk hr0_1
 have HC0_1 := Aside0.mk hc0_1
 clear hr0_1 hc0_1
 have HR1_0 := Aside0.mk hr1_0
 have HC1_0 := Aside0.mk hc1_0
 clear hr1_0 hc1_0
 have HR1_1 := Aside0.mk hr1_1
 have HC1_1 := Aside0.mk hc1_1
 clear hr1_1 hc1_1
 have HB := Aside0.mk (Below.refl w.heap.size w)
 have H : (spec_l8Free.l0 k (([] : List Int)) 0 a0_0 l0_1 l1_0 l1_1) = some r := h
 clear h
 obtain ⟨y170, hy170⟩ : ∃ y_ : List Int, y_ = (([] : List Int)) := ⟨_, rfl⟩
 replace H : (spec_l8Free.l0 k y170 0 a0_0 l0_1 l1_0 l1_1) = some r := by first | (rw [hy170];with_reducible exact H) | (have H2_ := (Option.bind_some _ _).symm.trans H;rw [hy170];with_reducible exact H2_) | (have H2_ := (Option.bind_some _ _).symm.trans H;with_reducible exact H2_) | with_reducible exact H | (rw [hy170];exact H) | exact H
 have Ny170 := Aside0.mk hy170
 clear hy170
 have H' := Aside0.mk H
 clear H
 go_enter Try.func82, Try.ntmps82
 go_wp2_with (first | ((with_reducible refine gate_dst (N := 2) rfl ?_);refine box_event ?hg (N := 2) ?hd (cs := #[.int .i64 a0_0, .slice A0_1 l0_1.length c0_1]) (t := 29) ?hr ?_;(case hd => rfl);(case hg => rfl);(case hr => first | (go_simp;done) | (go_simp;rfl));intro gb168 hg w3 hbox hb;have n0_ := Aside0.mk (below_step (by exact bB) hb);have n1_ := Aside0.mk (hbox);have n2_ := Aside0.mk ((by rw [hg];exact (below_size (by exact bB)) : w.heap.size ≤ gb168));have n3_ := Aside0.mk ((by rw [hg];exact (below_size (by exact bB)) : w.heap.size ≤ gb168));clear HB;have HB := n0_;have BK168 := n1_;have GW168 := n2_;have GE168 := n3_;clear n0_ n1_ n2_ n3_;clear hb hbox hg) | ((with_reducible refine gate_dst (N := 3) rfl ?_);refine box_event ?hg (N := 3) ?hd (cs := #[.slice A1_0 l1_0.length c1_0, .slice A1_1 l1_1.length c1_1]) (t := 70) ?hr ?_;(case hd => rfl);(case hg => rfl);(case hr => first | (go_simp;done) | (go_simp;rfl));intro gb169 hg w4 hbox hb;have n0_ := Aside0.mk (blk_below (g := gb168) (o := .cells #[.int .i64 a0_0, .slice A0_1 l0_1.length c0_1] 29 (0, 0)) (by exact kP BK168.out) hb);have n1_ := Aside0.mk (below_step (by exact bB) hb);have n2_ := Aside0.mk (hbox);have n3_ := Aside0.mk ((by rw [hg];exact (below_size (by exact bB)) : w.heap.size ≤ gb169));have n4_ := Aside0.mk ((by rw [hg];exact (below_size (by exact bB)) : w.heap.size ≤ gb169));have n5_ := Aside0.mk ((by rw [hg];exact Nat.ne_of_lt (blk_lt (g := gb168) (o := .cells #[.int .i64 a0_0, .slice A0_1 l0_1.length c0_1] 29 (0, 0)) (by exact kP BK168.out)) : gb168 ≠ gb169));have n6_ := Aside0.mk ((by rw [hg];exact Nat.ne_of_gt (blk_lt (g := gb168) (o := .cells #[.int .i64 a0_0, .slice A0_1 l0_1.length c0_1] 29 (0, 0)) (by exact kP BK168.out)) : gb169 ≠ gb168));clear BK168;clear HB;have BK168 := n0_;have HB := n1_;have BK169 := n2_;have GW169 := n3_;have GE169 := n4_;have NB168_169 := n5_;have NB169_168 := n6_;clear n0_ n1_ n2_ n3_ n4_ n5_ n6_;clear hb hbox hg) | ((with_reducible refine gate_dst (N := 7) rfl ?_);refine Kd.R_lit (Kd.int .i64) _ 3 ?hg (N := 7) ?hd (xs := ([] : List Int)) (inner := []) (ok := fun _ => True) (okp := fun _ => True) ?hr ?hp (fun _ hk => hk) trivial (Below.refl _ _) (Nat.le_refl _) (by simp) ?_;(case hd => rfl);(case hg => rfl);(case hr => first | (go_simp;done) | (go_simp;rfl));(case hp => exact (Reps.none _ _));intro v171 w5 ho6 hb hg_ hnew_;clear hg_ hnew_;(first | rw [← Ny170.out] at ho6 | (simp only [Int.reduceToNat] at ho6;rw [← Ny170.out] at ho6));have n0_ := Aside0.mk (Kd.R_lower ho6 (below_size (by exact bB)));have n1_ := Aside0.mk (blk_below (g := gb168) (o := .cells #[.int .i64 a0_0, .slice A0_1 l0_1.length c0_1] 29 (0, 0)) (by exact kP BK168.out) hb);have n2_ := Aside0.mk (blk_below (g := gb169) (o := .cells #[.slice A1_0 l1_0.length c1_0, .slice A1_1 l1_1.length c1_1] 70 (0, 0)) (by exact kP BK169.out) hb);have n3_ := Aside0.mk (below_step (by exact bB) hb);clear BK168;clear BK169;clear HB;have HO172 := n0_;have BK168 := n1_;have BK169 := n2_;have HB := n3_;clear n0_ n1_ n2_ n3_;clear hb ho6))
 go_loopg [5, 6] k (fun kq v5 v6 w' => ∃ (x5_1 : List Int) (x6_1 : Int), v6 = .int .i64 x6_1 ∧ Aside0 (spec_l8Free.l0 kq x5_1 x6_1 a0_0 l0_1 l1_0 l1_1 = some r) ∧ Aside0 (kq ≤ k) ∧ Aside0 (Kd.R (Kd.int .i64) 3 w' w.heap.size (fun _ => True) v5 x5_1) ∧ Aside0 (w'.heap[gb168]? = some (.cells #[.int .i64 a0_0, (.slice A0_1 l0_1.length c0_1)] 29 (0, 0))) ∧ Aside0 (w'.heap[gb169]? = some (.cells #[(.slice A1_0 l1_0.length c1_0), (.slice A1_1 l1_1.length c1_1)] 70 (0, 0))) ∧ Aside0 (Below w.heap.size w w'))
 case atStart => exact ⟨(y170), (0), (by first | rfl | (simp;done) | (simp [*];done)), H', ⟨Nat.le_refl _⟩, ⟨by exact rP HO172.out⟩, ⟨by exact kP BK168.out⟩, ⟨by exact kP BK169.out⟩, ⟨by exact bB⟩⟩
 case round =>
  clear H'
  try clear c1
  try clear p2
  obtain ⟨x5_1, x6_1, rfl, HA, HK1, HO_5, BK168, BK169, HB⟩ := hrel
  cases gk with
  | zero => exact absurd HA.out (by simp [spec_l8Free.l0])
  | succ k1 =>
   have H := HA.out
   clear HA
   simp only [spec_l8Free.l0] at H
   by_cases c7 : x6_1 < a0_0
   ·rw [if_pos c7] at H
    have c7b0 : decide (x6_1 < a0_0) = true := decide_eq_true c7
    clear c7
    replace H := Option.bind_eq_some_iff.mp H
    obtain ⟨t173, A80, H⟩ := H
    replace H : (if t173 = true then (spec_l8Free.l0 k1 x5_1 (wrap64 (x6_1 + 1)) a0_0 l0_1 l1_0 l1_1) else ((spec_l1Has.f k1 l1_1 x6_1).bind fun t174 => (if t174 = true then (spec_l8Free.l0 k1 x5_1 (wrap64 (x6_1 + 1)) a0_0 l0_1 l1_0 l1_1) else (if x5_1.length < 17592186044416 then (spec_l8Free.l0 k1 (x5_1 ++ [x6_1]) (wrap64 (x6_1 + 1)) a0_0 l0_1 l1_0 l1_1) else (none))))) = some r := H
    have A8 := Aside0.mk A80
    clear A80
    by_cases c9 : t173 = true
    ·subst c9
     have H1 : (spec_l8Free.l0 k1 x5_1 (wrap64 (x6_1 + 1)) a0_0 l0_1 l1_0 l1_1) = some r := by rw [if_pos rfl] at H;exact H
     clear H
     have H := H1
     clear H1
     have H' := Aside0.mk H
     clear H
     have hnb10 := NB168_169.out
     have hnc10 := NB169_168.out
     have hcz11_0 : wr.cell? ⟨gb168, 0, none⟩ = some (.int .i64 a0_0) := (blk_cell BK168.out 0).trans rfl
     have hcz11_1 : wr.cell? ⟨gb168, 1, none⟩ = some (.slice A0_1 l0_1.length c0_1) := (blk_cell BK168.out 1).trans rfl
     have hfz11_0 := blk_frozen BK168.out 0
     have hfz11_1 := blk_frozen BK168.out 1
     have hcz12_0 : wr.cell? ⟨gb169, 0, none⟩ = some (.slice A1_0 l1_0.length c1_0) := (blk_cell BK169.out 0).trans rfl
     have hcz12_1 : wr.cell? ⟨gb169, 1, none⟩ = some (.slice A1_1 l1_1.length c1_1) := (blk_cell BK169.out 1).trans rfl
     have hfz12_0 := blk_frozen BK169.out 0
     have hfz12_1 := blk_frozen BK169.out 1
     go_wp2_with (first | ((with_reducible refine gate_callee (f := 93) rfl ?_);refine goesL_ (some 17) rfl rfl Try.func93 (by kernel_rfl) rfl #[.slice A1_0 l1_0.length c1_0, .int .i64 x6_1] rfl mM ?_;(with_reducible refine (spec_l1Has.calls k1 _ _ l1_0 x6_1 true _ ?side1 ?side2 A8.out).mono ?_);(case side1 => exact cP (Kd.C_below HR1_0.out HB.out));(case side2 => exact HC1_0.out);rintro e w' ⟨rfl, ⟨nd, rfl⟩⟩;refine ⟨_, rfl, ?_⟩))
     go_roundg k1
     case measure => have := HK1.out;omega
     case rel => exact ⟨(x5_1), (wrap64 (x6_1 + 1)), (by first | rfl | (simp;done) | (simp [*];done)), H', ⟨by have := HK1.out;omega⟩, ⟨by exact rP HO_5.out⟩, ⟨by exact kP BK168.out⟩, ⟨by exact kP BK169.out⟩, ⟨by exact bB⟩⟩
    ·replace c9 := Bool.eq_false_iff.mpr c9
     subst c9
     have H1 : ((spec_l1Has.f k1 l1_1 x6_1).bind fun t174 => (if t174 = true then (spec_l8Free.l0 k1 x5_1 (wrap64 (x6_1 + 1)) a0_0 l0_1 l1_0 l1_1) else (if x5_1.length < 17592186044416 then (spec_l8Free.l0 k1 (x5_1 ++ [x6_1]) (wrap64 (x6_1 + 1)) a0_0 l0_1 l1_0 l1_1) else (none)))) = some r := by rw [if_neg (show ¬ (false = true) by decide)] at H;exact H
     clear H
     have H := H1
     clear H1
     replace H := Option.bind_eq_some_iff.mp H
     obtain ⟨t174, A130, H⟩ := H
     replace H : (if t174 = true then (spec_l8Free.l0 k1 x5_1 (wrap64 (x6_1 + 1)) a0_0 l0_1 l1_0 l1_1) else (if x5_1.length < 17592186044416 then (spec_l8Free.l0 k1 (x5_1 ++ [x6_1]) (wrap64 (x6_1 + 1)) a0_0 l0_1 l1_0 l1_1) else (none))) = some r := H
     have A13 := Aside0.mk A130
     clear A130
     by_cases c14 : t174 = true
     ·subst c14
      have H1 : (spec_l8Free.l0 k1 x5_1 (wrap64 (x6_1 + 1)) a0_0 l0_1 l1_0 l1_1) = some r := by rw [if_pos rfl] at H;exact H
      clear H
      have H := H1
      clear H1
      have H' := Aside0.mk H
      clear H
      have hnb15 := NB168_169.out
      have hnc15 := NB169_168.out
      have hcz16_0 : wr.cell? ⟨gb168, 0, none⟩ = some (.int .i64 a0_0) := (blk_cell BK168.out 0).trans rfl
      have hcz16_1 : wr.cell? ⟨gb168, 1, none⟩ = some (.slice A0_1 l0_1.length c0_1) := (blk_cell BK168.out 1).trans rfl
      have hfz16_0 := blk_frozen BK168.out 0
      have hfz16_1 := blk_frozen BK168.out 1
      have hcz17_0 : wr.cell? ⟨gb169, 0, none⟩ = some (.slice A1_0 l1_0.length c1_0) := (blk_cell BK169.out 0).trans rfl
      have hcz17_1 : wr.cell? ⟨gb169, 1, none⟩ = some (.slice A1_1 l1_1.length c1_1) := (blk_cell BK169.out 1).trans rfl
      have hfz17_0 := blk_frozen BK169.out 0
      have hfz17_1 := blk_frozen BK169.out 1
      go_wp2_with (first | ((with_reducible refine gate_callee (f := 93) rfl ?_);refine goesL_ (some 17) rfl rfl Try.func93 (by kernel_rfl) rfl #[.slice A1_0 l1_0.length c1_0, .int .i64 x6_1] rfl mM ?_;(with_reducible refine (spec_l1Has.calls k1 _ _ l1_0 x6_1 false _ ?side1 ?side2 A8.out).mono ?_);(case side1 => exact cP (Kd.C_below HR1_0.out HB.out));(case side2 => exact HC1_0.out);rintro e w' ⟨rfl, ⟨nd, rfl⟩⟩;refine ⟨_, rfl, ?_⟩) | (go_at_call 93;(with_reducible refine (spec_l1Has.calls k1 _ _ l1_1 x6_1 true _ ?side1 ?side2 A13.out).mono ?_);(case side1 => exact cP (Kd.C_below HR1_1.out (by repeat (first | (with_reducible first | exact HB.out | apply below_alloc | apply pw_below_drewN | apply below_drew1 | refine below_set ?_ GE168.out | refine below_set ?_ GE169.out) | exact HB.out))));(case side2 => exact HC1_1.out);rintro e w' ⟨rfl, ⟨nd, rfl⟩⟩))
      go_roundg k1
      case measure => have := HK1.out;omega
      case rel => exact ⟨(x5_1), (wrap64 (x6_1 + 1)), (by first | rfl | (simp;done) | (simp [*];done)), H', ⟨by have := HK1.out;omega⟩, ⟨by exact rP HO_5.out⟩, ⟨by exact kP BK168.out⟩, ⟨by exact kP BK169.out⟩, ⟨by exact bB⟩⟩
     ·replace c14 := Bool.eq_false_iff.mpr c14
      subst c14
      have H1 : (if x5_1.length < 17592186044416 then (spec_l8Free.l0 k1 (x5_1 ++ [x6_1]) (wrap64 (x6_1 + 1)) a0_0 l0_1 l1_0 l1_1) else (none)) = some r := by rw [if_neg (show ¬ (false = true) by decide)] at H;exact H
      clear H
      have H := H1
      clear H1
      by_cases c18 : x5_1.length < 17592186044416
      ·rw [if_pos c18] at H
       have LMc18 := Aside0.mk c18
       clear c18
       obtain ⟨y175, hy175⟩ : ∃ y_ : List Int, y_ = (x5_1 ++ [x6_1]) := ⟨_, rfl⟩
       replace H : (spec_l8Free.l0 k1 y175 (wrap64 (x6_1 + 1)) a0_0 l0_1 l1_0 l1_1) = some r := by first | (rw [hy175];with_reducible exact H) | (have H2_ := (Option.bind_some _ _).symm.trans H;rw [hy175];with_reducible exact H2_) | (have H2_ := (Option.bind_some _ _).symm.trans H;with_reducible exact H2_) | with_reducible exact H | (rw [hy175];exact H) | exact H
       have Ny175 := Aside0.mk hy175
       clear hy175
       have H' := Aside0.mk H
       clear H
       have hnb19 := NB168_169.out
       have hnc19 := NB169_168.out
       have hcz20_0 : wr.cell? ⟨gb168, 0, none⟩ = some (.int .i64 a0_0) := (blk_cell BK168.out 0).trans rfl
       have hcz20_1 : wr.cell? ⟨gb168, 1, none⟩ = some (.slice A0_1 l0_1.length c0_1) := (blk_cell BK168.out 1).trans rfl
       have hfz20_0 := blk_frozen BK168.out 0
       have hfz20_1 := blk_frozen BK168.out 1
       have hcz21_0 : wr.cell? ⟨gb169, 0, none⟩ = some (.slice A1_0 l1_0.length c1_0) := (blk_cell BK169.out 0).trans rfl
       have hcz21_1 : wr.cell? ⟨gb169, 1, none⟩ = some (.slice A1_1 l1_1.length c1_1) := (blk_cell BK169.out 1).trans rfl
       have hfz21_0 := blk_frozen BK169.out 0
       have hfz21_1 := blk_frozen BK169.out 1
       go_wp2_with (first | ((with_reducible refine gate_callee (f := 93) rfl ?_);refine goesL_ (some 17) rfl rfl Try.func93 (by kernel_rfl) rfl #[.slice A1_0 l1_0.length c1_0, .int .i64 x6_1] rfl mM ?_;(with_reducible refine (spec_l1Has.calls k1 _ _ l1_0 x6_1 false _ ?side1 ?side2 A8.out).mono ?_);(case side1 => exact cP (Kd.C_below HR1_0.out HB.out));(case side2 => exact HC1_0.out);rintro e w' ⟨rfl, ⟨nd, rfl⟩⟩;refine ⟨_, rfl, ?_⟩) | (go_at_call 93;(with_reducible refine (spec_l1Has.calls k1 _ _ l1_1 x6_1 false _ ?side1 ?side2 A13.out).mono ?_);(case side1 => exact cP (Kd.C_below HR1_1.out (by repeat (first | (with_reducible first | exact HB.out | apply below_alloc | apply pw_below_drewN | apply below_drew1 | refine below_set ?_ GE168.out | refine below_set ?_ GE169.out) | exact HB.out))));(case side2 => exact HC1_1.out);rintro e w' ⟨rfl, ⟨nd, rfl⟩⟩) | ((with_reducible refine gate_builtin (b := .append) (xs := #[.tmp 26, .tmp 28]) rfl ?_);at_builtin;refine Kd.R_append (Kd.int .i64) (w0 := w) w.heap.size rfl (.tmp 26) (.tmp 28) 25 3 (.int .i64 0) 8 rfl Try.underlying25 info3 rfl (by decide) (by omega) u5 x5_1 x6_1 [.int .i64 x6_1] (fun _ => True) (fun _ => False) rfl rfl ?aP (fun _ hk => hk.elim) ?aF ?aO ?aB ?aS ?aL ?_;(case aP => exact rfl);(case aB => exact (by exact bB));(case aF => exact (fun _ _ => trivial));(case aO => exact (by exact rP HO_5.out));(case aS => exact (below_size (by exact bB)));(case aL => have := LMc18.out;omega);intro v176 w22 ho hb hg hat;rw [← Ny175.out] at ho;have n0_ := Aside0.mk (blk_grown (g := gb168) (o := .cells #[.int .i64 a0_0, .slice A0_1 l0_1.length c0_1] 29 (0, 0)) (by exact kP BK168.out) hg (Kd.R_ne HO_5.out BK168.out (by decide)));have n1_ := Aside0.mk (blk_grown (g := gb169) (o := .cells #[.slice A1_0 l1_0.length c1_0, .slice A1_1 l1_1.length c1_1] 70 (0, 0)) (by exact kP BK169.out) hg (Kd.R_ne HO_5.out BK169.out (by decide)));have n2_ := Aside0.mk (hb);have n3_ := Aside0.mk (ho);clear BK168;clear BK169;clear HB;clear HO_5;have BK168 := n0_;have BK169 := n1_;have HB := n2_;have HO177 := n3_;clear n0_ n1_ n2_ n3_;clear ho hb hg hat))
       go_roundg k1
       case measure => have := HK1.out;omega
       case rel => exact ⟨(y175), (wrap64 (x6_1 + 1)), (by first | rfl | (simp;done) | (simp [*];done)), H', ⟨by have := HK1.out;omega⟩, ⟨by exact rP HO177.out⟩, ⟨by exact kP BK168.out⟩, ⟨by exact kP BK169.out⟩, ⟨by exact bB⟩⟩
      ·rw [if_neg c18] at H
       exact absurd H (by simp)
   ·rw [if_neg c7] at H
    have c7b0 : decide (x6_1 < a0_0) = false := decide_eq_false c7
    clear c7
    obtain rfl := Option.some.inj H
    have hnb23 := NB168_169.out
    have hnc23 := NB169_168.out
    have hcz24_0 : wr.cell? ⟨gb168, 0, none⟩ = some (.int .i64 a0_0) := (blk_cell BK168.out 0).trans rfl
    have hcz24_1 : wr.cell? ⟨gb168, 1, none⟩ = some (.slice A0_1 l0_1.length c0_1) := (blk_cell BK168.out 1).trans rfl
    have hfz24_0 := blk_frozen BK168.out 0
    have hfz24_1 := blk_frozen BK168.out 1
    go_wp2
    go_ret
    exact ⟨_, by first | rfl | (simp [errW_none, errW_some] <;> rfl) | (simp [*, errW_none, errW_some] <;> rfl), by exact rP HO_5.out, by exact bB⟩




end Go.Proofs.Ytaddgielnfhhpaa.QBestFirePlan
