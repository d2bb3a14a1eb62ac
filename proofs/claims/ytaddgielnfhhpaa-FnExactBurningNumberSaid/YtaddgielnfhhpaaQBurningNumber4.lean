import Derived.Test.YtaddgielnfhhpaaQBurningNumber0
import Derived.Test.YtaddgielnfhhpaaQBurningNumber3
namespace Go.Proofs.Ytaddgielnfhhpaa.QBurningNumber
open Go.RowKit Go.Proofs.YtaddgielnfhhpaaW.PrintWords Go.Proofs.YtaddgielnfhhpaaW.PrintLast Go.Proofs.YtaddgielnfhhpaaW.PrintMore
attribute [local go_sem] max2_int min2_int max_two min_two max_three min_three max_four min_four   -- for this text's walks alone
set_option linter.unusedVariables false
set_option linter.unusedSimpArgs false
/-! ### spec_l2Dist: function 102 -/
mutual
def spec_l2Dist.l0 : Nat → List (List Int) → Int → Int → List (S80) → Option ((List (List Int)))
 | 0, _, _, _, _ => none
 | k + 1, x3, x4, x133000, x133001 => if x4 < x133000 then (spec_l2Dist.l1 k x3 x4 (([] : List Int)) 0 x133000 x133001) else (some x3)
def spec_l2Dist.l1 : Nat → List (List Int) → Int → List Int → Int → Int → List (S80) → Option ((List (List Int)))
 | 0, _, _, _, _, _, _ => none
 | k + 1, x3, x4, x5, x6, x133000, x133001 => if x6 < x133000 then (if x5.length < 17592186044416 then (spec_l2Dist.l1 k x3 x4 (x5 ++ [(-1)]) (wrap64 (x6 + 1)) x133000 x133001) else (none)) else (if 0 ≤ x4 then (if x4 < (x5.length : Int) then (spec_l2Dist.l2 k x3 x4 (x5.set (x4 : Int).toNat 0) 0 x133000 x133001) else (none)) else (none))
def spec_l2Dist.l2 : Nat → List (List Int) → Int → List Int → Int → Int → List (S80) → Option ((List (List Int)))
 | 0, _, _, _, _, _, _ => none
 | k + 1, x3, x4, x5, x7, x133000, x133001 => if x7 < x133000 then (spec_l2Dist.l3 k x3 x4 x5 x7 0 x133000 x133001) else (if x3.length < 5864062014805 then (spec_l2Dist.l0 k (x3 ++ [x5]) (wrap64 (x4 + 1)) x133000 x133001) else (none))
def spec_l2Dist.l3 : Nat → List (List Int) → Int → List Int → Int → Int → Int → List (S80) → Option ((List (List Int)))
 | 0, _, _, _, _, _, _, _ => none
 | k + 1, x3, x4, x5, x7, x8, x133000, x133001 => if x8 < x133000 then (spec_l2Dist.l4 k x3 x4 x5 x7 x8 0 x133000 x133001) else (spec_l2Dist.l2 k x3 x4 x5 (wrap64 (x7 + 1)) x133000 x133001)
def spec_l2Dist.l4 : Nat → List (List Int) → Int → List Int → Int → Int → Int → Int → List (S80) → Option ((List (List Int)))
 | 0, _, _, _, _, _, _, _, _ => none
 | k + 1, x3, x4, x5, x7, x8, x9, x133000, x133001 => if x9 < x133000 then (if 0 ≤ x8 then (if x8 < (x5.length : Int) then (if (rd x5 x8) = x7 then (if 0 ≤ x9 then (if x9 < (x5.length : Int) then (if (rd x5 x9) < 0 then ((spec_l2Near.f k x133000 x133001 x8 x9).bind fun t148 => (if t148 = true then (spec_l2Dist.l4 k x3 x4 (x5.set (x9 : Int).toNat (wrap64 (x7 + 1))) x7 x8 (wrap64 (x9 + 1)) x133000 x133001) else (spec_l2Dist.l4 k x3 x4 x5 x7 x8 (wrap64 (x9 + 1)) x133000 x133001))) else (spec_l2Dist.l4 k x3 x4 x5 x7 x8 (wrap64 (x9 + 1)) x133000 x133001)) else (none)) else (none)) else (spec_l2Dist.l4 k x3 x4 x5 x7 x8 (wrap64 (x9 + 1)) x133000 x133001)) else (none)) else (none)) else (spec_l2Dist.l3 k x3 x4 x5 x7 (wrap64 (x8 + 1)) x133000 x133001)
end
def spec_l2Dist.f (k : Nat) (a0_0 : Int) (l0_1 : List (S80)) : Option ((List (List Int))) := spec_l2Dist.l0 k (([] : List (List Int))) 0 a0_0 l0_1
theorem spec_l2Dist.mono_l : ∀ k, (∀ y0 y1 y2 y3, LeO (spec_l2Dist.l0 k y0 y1 y2 y3) (spec_l2Dist.l0 (k + 1) y0 y1 y2 y3)) ∧ (∀ y0 y1 y2 y3 y4 y5, LeO (spec_l2Dist.l1 k y0 y1 y2 y3 y4 y5) (spec_l2Dist.l1 (k + 1) y0 y1 y2 y3 y4 y5)) ∧ (∀ y0 y1 y2 y3 y4 y5, LeO (spec_l2Dist.l2 k y0 y1 y2 y3 y4 y5) (spec_l2Dist.l2 (k + 1) y0 y1 y2 y3 y4 y5)) ∧ (∀ y0 y1 y2 y3 y4 y5 y6, LeO (spec_l2Dist.l3 k y0 y1 y2 y3 y4 y5 y6) (spec_l2Dist.l3 (k + 1) y0 y1 y2 y3 y4 y5 y6)) ∧ (∀ y0 y1 y2 y3 y4 y5 y6 y7, LeO (spec_l2Dist.l4 k y0 y1 y2 y3 y4 y5 y6 y7) (spec_l2Dist.l4 (k + 1) y0 y1 y2 y3 y4 y5 y6 y7))
 | 0 => ⟨fun _ _ _ _ r h => by simp [spec_l2Dist.l0] at h, fun _ _ _ _ _ _ r h => by simp [spec_l2Dist.l1] at h, fun _ _ _ _ _ _ r h => by simp [spec_l2Dist.l2] at h, fun _ _ _ _ _ _ _ r h => by simp [spec_l2Dist.l3] at h, fun _ _ _ _ _ _ _ _ r h => by simp [spec_l2Dist.l4] at h⟩
 | k + 1 => by
  obtain ⟨ih0, ih1, ih2, ih3, ih4⟩ := spec_l2Dist.mono_l k
  refine ⟨?_, ?_, ?_, ?_, ?_⟩
  ·intro y0 y1 y2 y3
   unfold spec_l2Dist.l0
   repeat' first
   | (with_reducible exact ih0 _ _ _ _)
   | (with_reducible exact ih1 _ _ _ _ _ _)
   | (with_reducible exact ih2 _ _ _ _ _ _)
   | (with_reducible exact ih3 _ _ _ _ _ _ _)
   | (with_reducible exact ih4 _ _ _ _ _ _ _ _)
   | (with_reducible exact spec_l2Near.mono _ _ _ _ _)
   | (with_reducible exact LeO.refl _)
   | (with_reducible exact LeO.none _)
   | (with_reducible refine LeO.ite ?_ ?_)
   | (with_reducible refine LeO.bind ?_ (fun _ => ?_))
   | exact ih0 _ _ _ _
   | exact ih1 _ _ _ _ _ _
   | exact ih2 _ _ _ _ _ _
   | exact ih3 _ _ _ _ _ _ _
   | exact ih4 _ _ _ _ _ _ _ _
   | exact spec_l2Near.mono _ _ _ _ _
   | exact LeO.none _
   | refine LeO.ite ?_ ?_
   | refine LeO.bind ?_ (fun _ => ?_)
  ·intro y0 y1 y2 y3 y4 y5
   unfold spec_l2Dist.l1
   repeat' first
   | (with_reducible exact ih0 _ _ _ _)
   | (with_reducible exact ih1 _ _ _ _ _ _)
   | (with_reducible exact ih2 _ _ _ _ _ _)
   | (with_reducible exact ih3 _ _ _ _ _ _ _)
   | (with_reducible exact ih4 _ _ _ _ _ _ _ _)
   | (with_reducible exact spec_l2Near.mono _ _ _ _ _)
   | (with_reducible exact LeO.refl _)
   | (with_reducible exact LeO.none _)
   | (with_reducible refine LeO.ite ?_ ?_)
   | (with_reducible refine LeO.bind ?_ (fun _ => ?_))
   | exact ih0 _ _ _ _
   | exact ih1 _ _ _ _ _ _
   | exact ih2 _ _ _ _ _ _
   | exact ih3 _ _ _ _ _ _ _
   | exact ih4 _ _ _ _ _ _ _ _
   | exact spec_l2Near.mono _ _ _ _ _
   | exact LeO.none _
   | refine LeO.ite ?_ ?_
   | refine LeO.bind ?_ (fun _ => ?_)
  ·intro y0 y1 y2 y3 y4 y5
   unfold spec_l2Dist.l2
   repeat' first
   | (with_reducible exact ih0 _ _ _ _)
   | (with_reducible exact ih1 _ _ _ _ _ _)
   | (with_reducible exact ih2 _ _ _ _ _ _)
   | (with_reducible exact ih3 _ _ _ _ _ _ _)
   | (with_reducible exact ih4 _ _ _ _ _ _ _ _)
   | (with_reducible exact spec_l2Near.mono _ _ _ _ _)
   | (with_reducible exact LeO.refl _)
   | (with_reducible exact LeO.none _)
   | (with_reducible refine LeO.ite ?_ ?_)
   | (with_reducible refine LeO.bind ?_ (fun _ => ?_))
   | exact ih0 _ _ _ _
   | exact ih1 _ _ _ _ _ _
   | exact ih2 _ _ _ _ _ _
   | exact ih3 _ _ _ _ _ _ _
   | exact ih4 _ _ _ _ _ _ _ _
   | exact spec_l2Near.mono _ _ _ _ _
   | exact LeO.none _
   | refine LeO.ite ?_ ?_
   | refine LeO.bind ?_ (fun _ => ?_)
  ·intro y0 y1 y2 y3 y4 y5 y6
   unfold spec_l2Dist.l3
   repeat' first
   | (with_reducible exact ih0 _ _ _ _)
   | (with_reducible exact ih1 _ _ _ _ _ _)
   | (with_reducible exact ih2 _ _ _ _ _ _)
   | (with_reducible exact ih3 _ _ _ _ _ _ _)
   | (with_reducible exact ih4 _ _ _ _ _ _ _ _)
   | (with_reducible exact spec_l2Near.mono _ _ _ _ _)
   | (with_reducible exact LeO.refl _)
   | (with_reducible exact LeO.none _)
   | (with_reducible refine LeO.ite ?_ ?_)
   | (with_reducible refine LeO.bind ?_ (fun _ => ?_))
   | exact ih0 _ _ _ _
   | exact ih1 _ _ _ _ _ _
   | exact ih2 _ _ _ _ _ _
   | exact ih3 _ _ _ _ _ _ _
   | exact ih4 _ _ _ _ _ _ _ _
   | exact spec_l2Near.mono _ _ _ _ _
   | exact LeO.none _
   | refine LeO.ite ?_ ?_
   | refine LeO.bind ?_ (fun _ => ?_)
  ·intro y0 y1 y2 y3 y4 y5 y6 y7
   unfold spec_l2Dist.l4
   repeat' first
   | (with_reducible exact ih0 _ _ _ _)
   | (with_reducible exact ih1 _ _ _ _ _ _)
   | (with_reducible exact ih2 _ _ _ _ _ _)
   | (with_reducible exact ih3 _ _ _ _ _ _ _)
   | (with_reducible exact ih4 _ _ _ _ _ _ _ _)
   | (with_reducible exact spec_l2Near.mono _ _ _ _ _)
   | (with_reducible exact LeO.refl _)
   | (with_reducible exact LeO.none _)
   | (with_reducible refine LeO.ite ?_ ?_)
   | (with_reducible refine LeO.bind ?_ (fun _ => ?_))
   | exact ih0 _ _ _ _
   | exact ih1 _ _ _ _ _ _
   | exact ih2 _ _ _ _ _ _
   | exact ih3 _ _ _ _ _ _ _
   | exact ih4 _ _ _ _ _ _ _ _
   | exact spec_l2Near.mono _ _ _ _ _
   | exact LeO.none _
   | refine LeO.ite ?_ ?_
   | refine LeO.bind ?_ (fun _ => ?_)
theorem spec_l2Dist.mono : ∀ a0 a1 k, LeO (spec_l2Dist.f k a0 a1) (spec_l2Dist.f (k + 1) a0 a1) := by
 intro a0 a1 k
 obtain ⟨ih0, ih1, ih2, ih3, ih4⟩ := spec_l2Dist.mono_l k
 unfold spec_l2Dist.f
 repeat' first
   | (with_reducible exact ih0 _ _ _ _)
   | (with_reducible exact ih1 _ _ _ _ _ _)
   | (with_reducible exact ih2 _ _ _ _ _ _)
   | (with_reducible exact ih3 _ _ _ _ _ _ _)
   | (with_reducible exact ih4 _ _ _ _ _ _ _ _)
   | (with_reducible exact spec_l2Near.mono _ _ _ _ _)
   | (with_reducible exact LeO.refl _)
   | (with_reducible exact LeO.none _)
   | (with_reducible refine LeO.ite ?_ ?_)
   | (with_reducible refine LeO.bind ?_ (fun _ => ?_))
   | exact ih0 _ _ _ _
   | exact ih1 _ _ _ _ _ _
   | exact ih2 _ _ _ _ _ _
   | exact ih3 _ _ _ _ _ _ _
   | exact ih4 _ _ _ _ _ _ _ _
   | exact spec_l2Near.mono _ _ _ _ _
   | exact LeO.none _
   | refine LeO.ite ?_ ?_
   | refine LeO.bind ?_ (fun _ => ?_)
set_option maxHeartbeats 8000000 in
set_option maxRecDepth 100000 in
theorem spec_l2Dist.calls (k : Nat) (a0_0 : Int) (A0_1 : Option Addr) (c0_1 : Nat) (l0_1 : List (S80)) (r : List (List Int)) (w : World) (hr0_1 : Kd.C k80 w A0_1 l0_1.length l0_1) (hc0_1 : l0_1.length ≤ c0_1) (h : spec_l2Dist.f k a0_0 l0_1 = some r) :
  Calls Try.prog 102 #[.agg #[.int .i64 a0_0, .slice A0_1 l0_1.length c0_1]] w fun e w' => ∃ v0_ : Value, e = .returned (v0_) ∧ Kd.S (Kd.slice 3 (Kd.int .i64)) 25 w' w.heap.size (fun _ => True) v0_ r ∧ Below w.heap.size w w' := by
 have hu29 := Try.underlying29
 have HR0_1 := Aside0.mk hr0_1
 have HC0_1 := Aside0.mk hc0_1
 clear hr0_1 hc0_1
 have HB := Aside0.mk (Below.refl w.heap.size w)
 have H : (spec_l2Dist.l0 k (([] : List (List Int))) 0 a0_0 l0_1) = some r := h
 clear h
 obtain ⟨y133, hy133⟩ : ∃ y_ : List (List Int), y_ = (([] : List (List Int))) := ⟨_, rfl⟩
 replace H : (spec_l2Dist.l0 k y133 0 a0_0 l0_1) = some r := by first | (rw [hy133];with_reducible exact H) | (have H2_ := (Option.bind_some _ _).symm.trans H;rw [hy133];with_reducible exact H2_) | (have H2_ := (Option.bind_some _ _).symm.trans H;with_reducible exact H2_) | with_reducible exact H | (rw [hy133];exact H) | exact H
 have Ny133 := Aside0.mk hy133
 clear hy133
 have H' := Aside0.mk H
 clear H
 go_enter Try.func102, Try.ntmps102
 go_wp2_with (first | ((with_reducible refine gate_dst (N := 1) rfl ?_);refine box_event ?hg (N := 1) ?hd (cs := #[.int .i64 a0_0, .slice A0_1 l0_1.length c0_1]) (t := 29) ?hr ?_;(case hd => rfl);(case hg => rfl);(case hr => first | (go_simp;done) | (go_simp;rfl));intro gb132 hg w2 hbox hb;have n0_ := Aside0.mk (below_step (by exact bB) hb);have n1_ := Aside0.mk (hbox);have n2_ := Aside0.mk ((by rw [hg];exact (below_size (by exact bB)) : w.heap.size ≤ gb132));have n3_ := Aside0.mk ((by rw [hg];exact (below_size (by exact bB)) : w.heap.size ≤ gb132));clear HB;have HB := n0_;have BK132 := n1_;have GW132 := n2_;have GE132 := n3_;clear n0_ n1_ n2_ n3_;clear hb hbox hg) | ((with_reducible refine gate_dst (N := 10) rfl ?_);refine Kd.S_lit (Kd.slice 3 (Kd.int .i64)) _ 25 ?hg (N := 10) ?hd (xs := ([] : List (List Int))) (inner := []) (ok := fun _ => True) (okp := fun _ => True) ?hr ?hp (fun _ hk => hk) trivial (Below.refl _ _) (Nat.le_refl _) (by simp) ?_;(case hd => rfl);(case hg => rfl);(case hr => first | (go_simp;done) | (go_simp;rfl));(case hp => exact (Reps.none _ _));intro v134 w3 ho4 hb hg_ hnew_;clear hg_ hnew_;(first | rw [← Ny133.out] at ho4 | (simp only [Int.reduceToNat] at ho4;rw [← Ny133.out] at ho4));have n0_ := Aside0.mk (Kd.S_lower ho4 (below_size (by exact bB)));have n1_ := Aside0.mk (blk_below (g := gb132) (o := .cells #[.int .i64 a0_0, .slice A0_1 l0_1.length c0_1] 29 (0, 0)) (by exact kP BK132.out) hb);have n2_ := Aside0.mk (below_step (by exact bB) hb);clear BK132;clear HB;have HO135 := n0_;have BK132 := n1_;have HB := n2_;clear n0_ n1_ n2_;clear hb ho4))
 go_loopg [3, 4] k (fun kq v3 v4 w' => ∃ (x3_1 : List (List Int)) (x4_1 : Int), v4 = .int .i64 x4_1 ∧ Aside0 (spec_l2Dist.l0 kq x3_1 x4_1 a0_0 l0_1 = some r) ∧ Aside0 (kq ≤ k) ∧ Aside0 (Kd.S (Kd.slice 3 (Kd.int .i64)) 25 w' w.heap.size (fun _ => True) v3 x3_1) ∧ Aside0 (w'.heap[gb132]? = some (.cells #[.int .i64 a0_0, (.slice A0_1 l0_1.length c0_1)] 29 (0, 0))) ∧ Aside0 (Below w.heap.size w w'))
 case atStart => exact ⟨(y133), (0), (by first | rfl | (simp;done) | (simp [*];done)), H', ⟨Nat.le_refl _⟩, ⟨by (with_reducible repeat (first | apply Kd.S_alloc | apply Kd.S_drewN | apply Kd.S_drew));exact HO135.out⟩, ⟨by exact kP BK132.out⟩, ⟨by exact bB⟩⟩
 case round =>
  clear H'
  try clear c1
  try clear p2
  obtain ⟨x3_1, x4_1, rfl, HA, HK1, HO_3, BK132, HB⟩ := hrel
  cases gk with
  | zero => exact absurd HA.out (by simp [spec_l2Dist.l0])
  | succ k1 =>
   have H := HA.out
   clear HA
   simp only [spec_l2Dist.l0] at H
   by_cases c5 : x4_1 < a0_0
   ·rw [if_pos c5] at H
    have c5b0 : decide (x4_1 < a0_0) = true := decide_eq_true c5
    clear c5
    obtain ⟨y136, hy136⟩ : ∃ y_ : List Int, y_ = (([] : List Int)) := ⟨_, rfl⟩
    replace H : (spec_l2Dist.l1 k1 x3_1 x4_1 y136 0 a0_0 l0_1) = some r := by first | (rw [hy136];with_reducible exact H) | (have H2_ := (Option.bind_some _ _).symm.trans H;rw [hy136];with_reducible exact H2_) | (have H2_ := (Option.bind_some _ _).symm.trans H;with_reducible exact H2_) | with_reducible exact H | (rw [hy136];exact H) | exact H
    have Ny136 := Aside0.mk hy136
    clear hy136
    have H' := Aside0.mk H
    clear H
    have hcz6_0 : wr.cell? ⟨gb132, 0, none⟩ = some (.int .i64 a0_0) := (blk_cell BK132.out 0).trans rfl
    have hcz6_1 : wr.cell? ⟨gb132, 1, none⟩ = some (.slice A0_1 l0_1.length c0_1) := (blk_cell BK132.out 1).trans rfl
    have hfz6_0 := blk_frozen BK132.out 0
    have hfz6_1 := blk_frozen BK132.out 1
    go_wp2_with (first | ((with_reducible refine gate_dst (N := 17) rfl ?_);refine Kd.R_lit (Kd.int .i64) _ 3 ?hg (N := 17) ?hd (xs := ([] : List Int)) (inner := []) (ok := fun _ => True) (okp := fun _ => True) ?hr ?hp (fun _ hk => hk) trivial (Below.refl _ _) (Nat.le_refl _) (by simp) ?_;(case hd => rfl);(case hg => rfl);(case hr => first | (go_simp;done) | (go_simp;rfl));(case hp => exact (Reps.none _ _));intro v137 w7 ho8 hb hg_ hnew_;clear hg_ hnew_;(first | rw [← Ny136.out] at ho8 | (simp only [Int.reduceToNat] at ho8;rw [← Ny136.out] at ho8));have n0_ := Aside0.mk (Kd.S_elder' (by (with_reducible repeat (first | apply Kd.S_alloc | apply Kd.S_drewN | apply Kd.S_drew));exact HO_3.out) (Kd.R_base ho8) hb);have n1_ := Aside0.mk (Kd.R_lower ho8 (below_size (by exact bB)));have n2_ := Aside0.mk (blk_below (g := gb132) (o := .cells #[.int .i64 a0_0, .slice A0_1 l0_1.length c0_1] 29 (0, 0)) (by exact kP BK132.out) hb);have n3_ := Aside0.mk (below_step (by exact bB) hb);clear HO_3;clear BK132;clear HB;have HO_3 := n0_;have HO138 := n1_;have BK132 := n2_;have HB := n3_;clear n0_ n1_ n2_ n3_;clear hb ho8))
    go_loopg [5, 6] k1 (fun kq v5 v6 w' => ∃ (x5_2 : List Int) (x6_2 : Int), v6 = .int .i64 x6_2 ∧ Aside0 (spec_l2Dist.l1 kq x3_1 x4_1 x5_2 x6_2 a0_0 l0_1 = some r) ∧ Aside0 (kq ≤ k1) ∧ Aside0 (Kd.S (Kd.slice 3 (Kd.int .i64)) 25 w' w.heap.size (fun k_ => some k_ ≠ (v5 : Value).ownBlock) u3 x3_1) ∧ Aside0 (Kd.R (Kd.int .i64) 3 w' w.heap.size (fun _ => True) v5 x5_2) ∧ Aside0 (w'.heap[gb132]? = some (.cells #[.int .i64 a0_0, (.slice A0_1 l0_1.length c0_1)] 29 (0, 0))) ∧ Aside0 (Below w.heap.size w w'))
    case atStart => exact ⟨(y136), (0), (by first | rfl | (simp;done) | (simp [*];done)), H', ⟨Nat.le_refl _⟩, ⟨by (with_reducible repeat (first | apply Kd.S_alloc | apply Kd.S_drewN | apply Kd.S_drew));exact Kd.S_mono HO_3.out (fun _ hk => hk.2)⟩, ⟨by exact rP HO138.out⟩, ⟨by exact kP BK132.out⟩, ⟨by exact bB⟩⟩
    case round =>
     clear H'
     try clear c1
     try clear p2
     try clear c5
     try clear c5b0
     try clear hcz6_0
     try clear hcz6_1
     try clear hfz6_0
     try clear hfz6_1
     try clear p2
     obtain ⟨x5_2, x6_2, rfl, HA, HK2, HO_3, HO_5, BK132, HB⟩ := hrel
     cases gk with
     | zero => exact absurd HA.out (by simp [spec_l2Dist.l1])
     | succ k2 =>
      have H := HA.out
      clear HA
      simp only [spec_l2Dist.l1] at H
      by_cases c9 : x6_2 < a0_0
      ·rw [if_pos c9] at H
       have c9b0 : decide (x6_2 < a0_0) = true := decide_eq_true c9
       clear c9
       by_cases c10 : x5_2.length < 17592186044416
       ·rw [if_pos c10] at H
        have LMc10 := Aside0.mk c10
        clear c10
        obtain ⟨y139, hy139⟩ : ∃ y_ : List Int, y_ = (x5_2 ++ [(-1)]) := ⟨_, rfl⟩
        replace H : (spec_l2Dist.l1 k2 x3_1 x4_1 y139 (wrap64 (x6_2 + 1)) a0_0 l0_1) = some r := by first | (rw [hy139];with_reducible exact H) | (have H2_ := (Option.bind_some _ _).symm.trans H;rw [hy139];with_reducible exact H2_) | (have H2_ := (Option.bind_some _ _).symm.trans H;with_reducible exact H2_) | with_reducible exact H | (rw [hy139];exact H) | exact H
        have Ny139 := Aside0.mk hy139
        clear hy139
        have H' := Aside0.mk H
        clear H
        have hcz11_0 : wr.cell? ⟨gb132, 0, none⟩ = some (.int .i64 a0_0) := (blk_cell BK132.out 0).trans rfl
        have hcz11_1 : wr.cell? ⟨gb132, 1, none⟩ = some (.slice A0_1 l0_1.length c0_1) := (blk_cell BK132.out 1).trans rfl
        have hfz11_0 := blk_frozen BK132.out 0
        have hfz11_1 := blk_frozen BK132.out 1
        go_wp2_with (first | ((with_reducible refine gate_builtin (b := .append) (xs := #[.tmp 24, .tmp 25]) rfl ?_);at_builtin;refine Kd.R_append (Kd.int .i64) (w0 := w) w.heap.size rfl (.tmp 24) (.tmp 25) 25 3 (.int .i64 0) 8 rfl Try.underlying25 info3 rfl (by decide) (by omega) u5 x5_2 (-1) [.int .i64 (-1)] (fun _ => True) (fun _ => False) rfl rfl ?aP (fun _ hk => hk.elim) ?aF ?aO ?aB ?aS ?aL ?_;(case aP => exact rfl);(case aB => exact (by exact bB));(case aF => exact (fun _ _ => trivial));(case aO => exact (by exact rP HO_5.out));(case aS => exact (below_size (by exact bB)));(case aL => have := LMc10.out;omega);intro v140 w12 ho hb hg hat;rw [← Ny139.out] at ho;have n0_ := Aside0.mk (Kd.S_after (ok := (fun _ => True)) (by (with_reducible repeat (first | apply Kd.S_alloc | apply Kd.S_drewN | apply Kd.S_drew));exact Kd.S_mono HO_3.out (fun _ hk => ⟨trivial, hk⟩)) hg hat);have n1_ := Aside0.mk (blk_grown (g := gb132) (o := .cells #[.int .i64 a0_0, .slice A0_1 l0_1.length c0_1] 29 (0, 0)) (by exact kP BK132.out) hg (Kd.R_ne HO_5.out BK132.out (by decide)));have n2_ := Aside0.mk (hb);have n3_ := Aside0.mk (ho);clear HO_3;clear BK132;clear HB;clear HO_5;have HO_3 := n0_;have BK132 := n1_;have HB := n2_;have HO141 := n3_;clear n0_ n1_ n2_ n3_;clear ho hb hg hat))
        go_roundg k2
        case measure => have := HK1.out;have := HK2.out;omega
        case rel => exact ⟨(y139), (wrap64 (x6_2 + 1)), (by first | rfl | (simp;done) | (simp [*];done)), H', ⟨by have := HK1.out;have := HK2.out;omega⟩, ⟨by (with_reducible repeat (first | apply Kd.S_alloc | apply Kd.S_drewN | apply Kd.S_drew));exact Kd.S_mono HO_3.out (fun _ hk => hk.2)⟩, ⟨by exact rP HO141.out⟩, ⟨by exact kP BK132.out⟩, ⟨by exact bB⟩⟩
       ·rw [if_neg c10] at H
        exact absurd H (by simp)
      ·rw [if_neg c9] at H
       have c9b0 : decide (x6_2 < a0_0) = false := decide_eq_false c9
       clear c9
       by_cases c13 : 0 ≤ x4_1
       ·rw [if_pos c13] at H
        have c13b0 : decide (0 ≤ x4_1) = true := decide_eq_true c13
        clear c13
        by_cases c14 : x4_1 < (x5_2.length : Int)
        ·rw [if_pos c14] at H
         have c14b0 : decide (x4_1 < (x5_2.length : Int)) = true := decide_eq_true c14
         clear c14
         obtain ⟨y142, hy142⟩ : ∃ y_ : List Int, y_ = (x5_2.set (x4_1 : Int).toNat 0) := ⟨_, rfl⟩
         replace H : (spec_l2Dist.l2 k2 x3_1 x4_1 y142 0 a0_0 l0_1) = some r := by first | (rw [hy142];with_reducible exact H) | (have H2_ := (Option.bind_some _ _).symm.trans H;rw [hy142];with_reducible exact H2_) | (have H2_ := (Option.bind_some _ _).symm.trans H;with_reducible exact H2_) | with_reducible exact H | (rw [hy142];exact H) | exact H
         have Ny142 := Aside0.mk hy142
         clear hy142
         have H' := Aside0.mk H
         clear H
         have hcz16_0 : wr.cell? ⟨gb132, 0, none⟩ = some (.int .i64 a0_0) := (blk_cell BK132.out 0).trans rfl
         have hcz16_1 : wr.cell? ⟨gb132, 1, none⟩ = some (.slice A0_1 l0_1.length c0_1) := (blk_cell BK132.out 1).trans rfl
         have hfz16_0 := blk_frozen BK132.out 0
         have hfz16_1 := blk_frozen BK132.out 1
         have p15 : 0 ≤ (x4_1 : Int) := oA
         have q15 : (x4_1 : Int) < ((x5_2.length : Int) : Int) := oA
         obtain ⟨go15, co15, eo15, gb15, gl15, cl15, HG15⟩ := Kd.R_form HO_5.out (by omega)
         (first | cases eo15 | (injection eo15 with ea_ en_ ec_;(first | subst ea_ | (injection ea_ with ea_;subst ea_));subst ec_;clear en_))
         have GB15 := Aside0.mk gb15
         have GG15 := Aside0.mk HG15
         clear gb15 gl15 HG15
         obtain ⟨hx15_0, hf15_0⟩ := Kd.R_celln 0 HO_5.out (x4_1 : Int) p15 q15
         replace p15 := eq_true p15
         replace q15 := eq_true q15
         have HP17 := Kd.R_putg HO_5.out (x4_1 : Int) 0
         go_wp2_with (first | ((with_reducible refine gate_store (t := 3) (p := 29) rfl ?_);refine store_event (t := 3) (p := 29) (v := ?vo_w18) (w1 := (wr.setCell ⟨go15, (x4_1 : Int).toNat, none⟩ (.int .i64 0))) ?hg ?ho ?hn ?hr ?_;(case ho => rfl);(case hg => rfl);(case hn => rfl);(case hr => first | (go_simp;done) | (go_simp;rfl));intro w18 hw;have hg : wr.grownBy w18 (some go15) := (by rw [hw];exact HP17.2);have hp_ : Kd.R (Kd.int .i64) 3 w18 w.heap.size (fun _ => True) (.slice (some ⟨go15, 0, none⟩) x5_2.length co15) y142 := (by rw [hw, Ny142.out];exact HP17.1);clear HP17;have n0_ := Aside0.mk (Kd.S_after (v := (.slice (some ⟨go15, 0, none⟩) x5_2.length co15)) (v1 := (.slice (some ⟨go15, 0, none⟩) x5_2.length co15)) (ok := (fun _ => True)) (by (with_reducible repeat (first | apply Kd.S_alloc | apply Kd.S_drewN | apply Kd.S_drew));exact Kd.S_mono HO_3.out (fun _ hk => ⟨trivial, hk⟩)) hg (.inl rfl));have n1_ := Aside0.mk (hp_);have n2_ := Aside0.mk (blk_grown (g := gb132) (o := .cells #[.int .i64 a0_0, .slice A0_1 l0_1.length c0_1] 29 (0, 0)) (by exact kP BK132.out) hg (Kd.R_ne HO_5.out BK132.out (by decide)));have n3_ := Aside0.mk ((by rw [hw];exact below_set (HB.out) GB15.out : Below w.heap.size w w18));clear HO_3;clear HO_5;clear BK132;clear HB;have HO_3 := n0_;have HO_5 := n1_;have BK132 := n2_;have HB := n3_;clear n0_ n1_ n2_ n3_;clear hg hw hp_))
         go_loopg [7] k2 (fun kq v7 w' => ∃ (x5_3 : List Int) (x7_3 : Int), v7 = .int .i64 x7_3 ∧ Aside0 (spec_l2Dist.l2 kq x3_1 x4_1 x5_3 x7_3 a0_0 l0_1 = some r) ∧ Aside0 (kq ≤ k2) ∧ Aside0 (Kd.S (Kd.slice 3 (Kd.int .i64)) 25 w' w.heap.size (fun k_ => some k_ ≠ ((.slice (some ⟨go15, 0, none⟩) x5_2.length co15) : Value).ownBlock) u3 x3_1) ∧ Aside0 (Kd.R (Kd.int .i64) 3 w' w.heap.size (fun _ => True) (.slice (some ⟨go15, 0, none⟩) x5_2.length co15) x5_3) ∧ Aside0 (w'.heap[gb132]? = some (.cells #[.int .i64 a0_0, (.slice A0_1 l0_1.length c0_1)] 29 (0, 0))) ∧ Aside0 (Below w.heap.size w w'))
         case atStart => exact ⟨(y142), (0), (by first | rfl | (simp;done) | (simp [*];done)), H', ⟨Nat.le_refl _⟩, ⟨by (with_reducible repeat (first | apply Kd.S_alloc | apply Kd.S_drewN | apply Kd.S_drew));exact Kd.S_mono HO_3.out (fun _ hk => hk.2)⟩, ⟨by exact rP HO_5.out⟩, ⟨by exact kP BK132.out⟩, ⟨by exact bB⟩⟩
         case round =>
          clear H'
          try clear c1
          try clear p1
          try clear q1
          try clear hx1
          try clear hf1
          try clear p2
          try clear c5
          try clear c5b0
          try clear p6
          try clear c9
          try clear c9b0
          try clear c10
          try clear c13
          try clear c13b0
          try clear c14
          try clear c14b0
          try clear p15
          try clear q15
          try clear hx15
          try clear hf15
          try clear hcz11_0
          try clear hcz11_1
          try clear hcz16_0
          try clear hcz16_1
          try clear hcz6_0
          try clear hcz6_1
          try clear hfz11_0
          try clear hfz11_1
          try clear hfz16_0
          try clear hfz16_1
          try clear hfz6_0
          try clear hfz6_1
          try clear hx15_0
          try clear p15
          try clear p2
          try clear q15
          obtain ⟨x5_3, x7_3, rfl, HA, HK3, HO_3, HO_5, BK132, HB⟩ := hrel
          have hl5_3 := (Kd.R_reads' HO_5.out).1
          rw [hl5_3] at HO_5
          (try simp only [hl5_3])
          (try simp only [hl5_3] at BK132)
          (try simp only [hl5_3] at HO_3)
          cases gk with
          | zero => exact absurd HA.out (by simp [spec_l2Dist.l2])
          | succ k3 =>
           have H := HA.out
           clear HA
           simp only [spec_l2Dist.l2] at H
           by_cases c19 : x7_3 < a0_0
           ·rw [if_pos c19] at H
            have c19b0 : decide (x7_3 < a0_0) = true := decide_eq_true c19
            clear c19
            have H' := Aside0.mk H
            clear H
            have hcz20_0 : wr.cell? ⟨gb132, 0, none⟩ = some (.int .i64 a0_0) := (blk_cell BK132.out 0).trans rfl
            have hcz20_1 : wr.cell? ⟨gb132, 1, none⟩ = some (.slice A0_1 l0_1.length c0_1) := (blk_cell BK132.out 1).trans rfl
            have hfz20_0 := blk_frozen BK132.out 0
            have hfz20_1 := blk_frozen BK132.out 1
            go_wp2
            go_loopg [8] k3 (fun kq v8 w' => ∃ (x5_4 : List Int) (x8_4 : Int), v8 = .int .i64 x8_4 ∧ Aside0 (spec_l2Dist.l3 kq x3_1 x4_1 x5_4 x7_3 x8_4 a0_0 l0_1 = some r) ∧ Aside0 (kq ≤ k3) ∧ Aside0 (Kd.S (Kd.slice 3 (Kd.int .i64)) 25 w' w.heap.size (fun k_ => some k_ ≠ ((.slice (some ⟨go15, 0, none⟩) x5_3.length co15) : Value).ownBlock) u3 x3_1) ∧ Aside0 (Kd.R (Kd.int .i64) 3 w' w.heap.size (fun _ => True) (.slice (some ⟨go15, 0, none⟩) x5_3.length co15) x5_4) ∧ Aside0 (w'.heap[gb132]? = some (.cells #[.int .i64 a0_0, (.slice A0_1 l0_1.length c0_1)] 29 (0, 0))) ∧ Aside0 (Below w.heap.size w w'))
            case atStart => exact ⟨(x5_3), (0), (by first | rfl | (simp;done) | (simp [*];done)), H', ⟨Nat.le_refl _⟩, ⟨by (try simp only [hl5_3]);(with_reducible repeat (first | apply Kd.S_alloc | apply Kd.S_drewN | apply Kd.S_drew));exact HO_3.out⟩, ⟨by (try simp only [hl5_3]);exact rP HO_5.out⟩, ⟨by (try simp only [hl5_3]);exact kP BK132.out⟩, ⟨by exact bB⟩⟩
            case round =>
             clear H'
             try clear c1
             try clear p1
             try clear q1
             try clear hx1
             try clear hf1
             try clear p2
             try clear c5
             try clear c5b0
             try clear p6
             try clear c9
             try clear c9b0
             try clear c10
             try clear c13
             try clear c13b0
             try clear c14
             try clear c14b0
             try clear p15
             try clear q15
             try clear hx15
             try clear hf15
             try clear c19
             try clear c19b0
             try clear hcz11_0
             try clear hcz11_1
             try clear hcz16_0
             try clear hcz16_1
             try clear hcz20_0
             try clear hcz20_1
             try clear hcz6_0
             try clear hcz6_1
             try clear hfz11_0
             try clear hfz11_1
             try clear hfz16_0
             try clear hfz16_1
             try clear hfz20_0
             try clear hfz20_1
             try clear hfz6_0
             try clear hfz6_1
             try clear hx15_0
             try clear p1
             try clear p15
             try clear p2
             try clear p6
             try clear q1
             try clear q15
             obtain ⟨x5_4, x8_4, rfl, HA, HK4, HO_3, HO_5, BK132, HB⟩ := hrel
             have hl5_4 := (Kd.R_reads' HO_5.out).1
             rw [hl5_4] at HO_5
             (try simp only [hl5_4])
             (try simp only [hl5_4] at BK132)
             (try simp only [hl5_4] at HO_3)
             cases gk with
             | zero => exact absurd HA.out (by simp [spec_l2Dist.l3])
             | succ k4 =>
              have H := HA.out
              clear HA
              simp only [spec_l2Dist.l3] at H
              by_cases c21 : x8_4 < a0_0
              ·rw [if_pos c21] at H
               have c21b0 : decide (x8_4 < a0_0) = true := decide_eq_true c21
               clear c21
               have H' := Aside0.mk H
               clear H
               have hcz22_0 : wr.cell? ⟨gb132, 0, none⟩ = some (.int .i64 a0_0) := (blk_cell BK132.out 0).trans rfl
               have hcz22_1 : wr.cell? ⟨gb132, 1, none⟩ = some (.slice A0_1 l0_1.length c0_1) := (blk_cell BK132.out 1).trans rfl
               have hfz22_0 := blk_frozen BK132.out 0
               have hfz22_1 := blk_frozen BK132.out 1
               go_wp2
               go_loopg [9] k4 (fun kq v9 w' => ∃ (x5_5 : List Int) (x9_5 : Int), v9 = .int .i64 x9_5 ∧ Aside0 (spec_l2Dist.l4 kq x3_1 x4_1 x5_5 x7_3 x8_4 x9_5 a0_0 l0_1 = some r) ∧ Aside0 (kq ≤ k4) ∧ Aside0 (Kd.S (Kd.slice 3 (Kd.int .i64)) 25 w' w.heap.size (fun k_ => some k_ ≠ ((.slice (some ⟨go15, 0, none⟩) x5_4.length co15) : Value).ownBlock) u3 x3_1) ∧ Aside0 (Kd.R (Kd.int .i64) 3 w' w.heap.size (fun _ => True) (.slice (some ⟨go15, 0, none⟩) x5_4.length co15) x5_5) ∧ Aside0 (w'.heap[gb132]? = some (.cells #[.int .i64 a0_0, (.slice A0_1 l0_1.length c0_1)] 29 (0, 0))) ∧ Aside0 (Below w.heap.size w w'))
               case atStart => exact ⟨(x5_4), (0), (by first | rfl | (simp;done) | (simp [*];done)), H', ⟨Nat.le_refl _⟩, ⟨by (try simp only [hl5_3]);(try simp only [hl5_4]);(with_reducible repeat (first | apply Kd.S_alloc | apply Kd.S_drewN | apply Kd.S_drew));exact HO_3.out⟩, ⟨by (try simp only [hl5_3]);(try simp only [hl5_4]);exact rP HO_5.out⟩, ⟨by (try simp only [hl5_3]);(try simp only [hl5_4]);exact kP BK132.out⟩, ⟨by exact bB⟩⟩
               case round =>
                clear H'
                try clear c1
                try clear p1
                try clear q1
                try clear hx1
                try clear hf1
                try clear c2
                try clear p2
                try clear c5
                try clear c5b0
                try clear p6
                try clear c9
                try clear c9b0
                try clear c10
                try clear c13
                try clear c13b0
                try clear c14
                try clear c14b0
                try clear p15
                try clear q15
                try clear hx15
                try clear hf15
                try clear c19
                try clear c19b0
                try clear c21
                try clear c21b0
                try clear hcz11_0
                try clear hcz11_1
                try clear hcz16_0
                try clear hcz16_1
                try clear hcz20_0
                try clear hcz20_1
                try clear hcz22_0
                try clear hcz22_1
                try clear hcz6_0
                try clear hcz6_1
                try clear hfz11_0
                try clear hfz11_1
                try clear hfz16_0
                try clear hfz16_1
                try clear hfz20_0
                try clear hfz20_1
                try clear hfz22_0
                try clear hfz22_1
                try clear hfz6_0
                try clear hfz6_1
                try clear hx15_0
                try clear p1
                try clear p15
                try clear p2
                try clear p6
                try clear q1
                try clear q15
                obtain ⟨x5_5, x9_5, rfl, HA, HK5, HO_3, HO_5, BK132, HB⟩ := hrel
                have hl5_5 := (Kd.R_reads' HO_5.out).1
                rw [hl5_5] at HO_5
                (try simp only [hl5_5])
                (try simp only [hl5_5] at BK132)
                (try simp only [hl5_5] at HO_3)
                cases gk with
                | zero => exact absurd HA.out (by simp [spec_l2Dist.l4])
                | succ k5 =>
                 have H := HA.out
                 clear HA
                 simp only [spec_l2Dist.l4] at H
                 by_cases c23 : x9_5 < a0_0
                 ·rw [if_pos c23] at H
                  have c23b0 : decide (x9_5 < a0_0) = true := decide_eq_true c23
                  clear c23
                  by_cases c24 : 0 ≤ x8_4
                  ·rw [if_pos c24] at H
                   have c24b0 : decide (0 ≤ x8_4) = true := decide_eq_true c24
                   clear c24
                   by_cases c25 : x8_4 < (x5_5.length : Int)
                   ·rw [if_pos c25] at H
                    have c25b0 : decide (x8_4 < (x5_5.length : Int)) = true := decide_eq_true c25
                    clear c25
                    by_cases c26 : (rd x5_5 x8_4) = x7_3
                    ·rw [if_pos c26] at H
                     have c26b0 : ((rd x5_5 x8_4) == x7_3) = true := beq_iff_eq.mpr c26
                     have c26b1 : ((rd x5_5 x8_4) != x7_3) = false := bne_eq_false_iff_eq.mpr c26
                     clear c26
                     by_cases c27 : 0 ≤ x9_5
                     ·rw [if_pos c27] at H
                      have c27b0 : decide (0 ≤ x9_5) = true := decide_eq_true c27
                      clear c27
                      by_cases c28 : x9_5 < (x5_5.length : Int)
                      ·rw [if_pos c28] at H
                       have c28b0 : decide (x9_5 < (x5_5.length : Int)) = true := decide_eq_true c28
                       clear c28
                       by_cases c29 : (rd x5_5 x9_5) < 0
                       ·rw [if_pos c29] at H
                        have c29b0 : decide ((rd x5_5 x9_5) < 0) = true := decide_eq_true c29
                        clear c29
                        replace H := Option.bind_eq_some_iff.mp H
                        obtain ⟨t148, A300, H⟩ := H
                        replace H : (if t148 = true then (spec_l2Dist.l4 k5 x3_1 x4_1 (x5_5.set (x9_5 : Int).toNat (wrap64 (x7_3 + 1))) x7_3 x8_4 (wrap64 (x9_5 + 1)) a0_0 l0_1) else (spec_l2Dist.l4 k5 x3_1 x4_1 x5_5 x7_3 x8_4 (wrap64 (x9_5 + 1)) a0_0 l0_1)) = some r := H
                        have A30 := Aside0.mk A300
                        clear A300
                        by_cases c31 : t148 = true
                        ·subst c31
                         have H1 : (spec_l2Dist.l4 k5 x3_1 x4_1 (x5_5.set (x9_5 : Int).toNat (wrap64 (x7_3 + 1))) x7_3 x8_4 (wrap64 (x9_5 + 1)) a0_0 l0_1) = some r := by rw [if_pos rfl] at H;exact H
                         clear H
                         have H := H1
                         clear H1
                         obtain ⟨y149, hy149⟩ : ∃ y_ : List Int, y_ = (x5_5.set (x9_5 : Int).toNat (wrap64 (x7_3 + 1))) := ⟨_, rfl⟩
                         replace H : (spec_l2Dist.l4 k5 x3_1 x4_1 y149 x7_3 x8_4 (wrap64 (x9_5 + 1)) a0_0 l0_1) = some r := by first | (rw [hy149];with_reducible exact H) | (have H2_ := (Option.bind_some _ _).symm.trans H;rw [hy149];with_reducible exact H2_) | (have H2_ := (Option.bind_some _ _).symm.trans H;with_reducible exact H2_) | with_reducible exact H | (rw [hy149];exact H) | exact H
                         have Ny149 := Aside0.mk hy149
                         clear hy149
                         have H' := Aside0.mk H
                         clear H
                         have hcz33_0 : wr.cell? ⟨gb132, 0, none⟩ = some (.int .i64 a0_0) := (blk_cell BK132.out 0).trans rfl
                         have hcz33_1 : wr.cell? ⟨gb132, 1, none⟩ = some (.slice A0_1 l0_1.length c0_1) := (blk_cell BK132.out 1).trans rfl
                         have hfz33_0 := blk_frozen BK132.out 0
                         have hfz33_1 := blk_frozen BK132.out 1
                         have p146 : 0 ≤ (x8_4 : Int) := oA
                         have q146 : x8_4 < (x5_5.length : Int) := oA
                         obtain ⟨ad146, e146, hx146_0⟩ := Kd.at_int (Kd.R_reads' HO_5.out).2.2 x8_4 p146 q146
                         obtain rfl : (⟨go15, 0, none⟩ : Addr) = ad146 := (by injection e146)
                         (first | simp only [add_plain] at hx146_0 | simp only [add_at] at hx146_0 | simp only [Addr.add, Nat.zero_add] at hx146_0 | skip)
                         replace p146 := eq_true p146
                         replace q146 := eq_true q146
                         have p147 : 0 ≤ (x9_5 : Int) := oA
                         have q147 : x9_5 < (x5_5.length : Int) := oA
                         obtain ⟨ad147, e147, hx147_0⟩ := Kd.at_int (Kd.R_reads' HO_5.out).2.2 x9_5 p147 q147
                         obtain rfl : (⟨go15, 0, none⟩ : Addr) = ad147 := (by injection e147)
                         (first | simp only [add_plain] at hx147_0 | simp only [add_at] at hx147_0 | simp only [Addr.add, Nat.zero_add] at hx147_0 | skip)
                         replace p147 := eq_true p147
                         replace q147 := eq_true q147
                         go_wp2_with (first | (go_at_call 63;(with_reducible refine (spec_l2Near.calls k5 a0_0 _ _ l0_1 x8_4 x9_5 true _ ?side1 ?side2 A30.out).mono ?_);(case side1 => exact cP (Kd.C_below HR0_1.out HB.out));(case side2 => exact HC0_1.out);rintro e w34 ⟨rfl, hb⟩;have n0_ := Aside0.mk (Kd.S_below (by (with_reducible repeat (first | apply Kd.S_alloc | apply Kd.S_drewN | apply Kd.S_drew));exact HO_3.out) hb);have n1_ := Aside0.mk (Kd.R_below (by exact rP HO_5.out) hb);have n2_ := Aside0.mk (blk_below (g := gb132) (o := .cells #[.int .i64 a0_0, .slice A0_1 l0_1.length c0_1] 29 (0, 0)) (by exact kP BK132.out) hb);have n3_ := Aside0.mk (below_step (by exact bB) hb);clear HO_3;clear HO_5;clear BK132;clear HB;have HO_3 := n0_;have HO_5 := n1_;have BK132 := n2_;have HB := n3_;clear n0_ n1_ n2_ n3_;(try clear hb);(try clear hb2);(try clear hk);(try clear hi);have p32 : 0 ≤ (x9_5 : Int) := oA;have q32 : (x9_5 : Int) < ((x5_5.length : Int) : Int) := oA;obtain ⟨hx32_0, hf32_0⟩ := Kd.R_celln 0 HO_5.out (x9_5 : Int) p32 q32;replace p32 := eq_true p32;replace q32 := eq_true q32;obtain ⟨hy35_, hz35_⟩ := Kd.R_celln 0 HO_5.out (x9_5 : Int) (oA) (oA);have HP35 := Kd.R_putg HO_5.out (x9_5 : Int) (wrap64 (x7_3 + 1))) | ((with_reducible refine gate_store (t := 3) (p := 71) rfl ?_);refine store_event (t := 3) (p := 71) (v := ?vo_w36) (w1 := (w34.setCell ⟨go15, (x9_5 : Int).toNat, none⟩ (.int .i64 (wrap64 (x7_3 + 1))))) ?hg ?ho ?hn ?hr ?_;(case ho => rfl);(case hg => rfl);(case hn => rfl);(case hr => first | (go_simp;done) | (go_simp;rfl));intro w36 hw;have hg : w34.grownBy w36 (some go15) := (by rw [hw];exact HP35.2);have hp_ : Kd.R (Kd.int .i64) 3 w36 w.heap.size (fun _ => True) (.slice (some ⟨go15, 0, none⟩) x5_5.length co15) y149 := (by rw [hw, Ny149.out];exact HP35.1);clear HP35;have n0_ := Aside0.mk (Kd.S_after (v := (.slice (some ⟨go15, 0, none⟩) x5_5.length co15)) (v1 := (.slice (some ⟨go15, 0, none⟩) x5_5.length co15)) (ok := (fun _ => True)) (by (with_reducible repeat (first | apply Kd.S_alloc | apply Kd.S_drewN | apply Kd.S_drew));exact Kd.S_mono HO_3.out (fun _ hk => ⟨trivial, hk⟩)) hg (.inl rfl));have n1_ := Aside0.mk (hp_);have n2_ := Aside0.mk (blk_grown (g := gb132) (o := .cells #[.int .i64 a0_0, .slice A0_1 l0_1.length c0_1] 29 (0, 0)) (by exact kP BK132.out) hg (Kd.R_ne HO_5.out BK132.out (by decide)));have n3_ := Aside0.mk ((by rw [hw];exact below_set (HB.out) GB15.out : Below w.heap.size w w36));clear HO_3;clear HO_5;clear BK132;clear HB;have HO_3 := n0_;have HO_5 := n1_;have BK132 := n2_;have HB := n3_;clear n0_ n1_ n2_ n3_;clear hg hw hp_))
                         (try simp only [← hl5_5])
                         go_roundg k5
                         case measure => have := HK1.out;have := HK2.out;have := HK3.out;have := HK4.out;have := HK5.out;omega
                         case rel => exact ⟨(y149), (wrap64 (x9_5 + 1)), (by first | rfl | (simp;done) | (simp [*];done)), H', ⟨by have := HK1.out;have := HK2.out;have := HK3.out;have := HK4.out;have := HK5.out;omega⟩, ⟨by (try simp only [hl5_3]);(try simp only [hl5_4]);(try simp only [hl5_5]);(with_reducible repeat (first | apply Kd.S_alloc | apply Kd.S_drewN | apply Kd.S_drew));exact Kd.S_mono HO_3.out (fun _ hk => hk.2)⟩, ⟨by (try simp only [hl5_3]);(try simp only [hl5_4]);(try simp only [hl5_5]);exact rP HO_5.out⟩, ⟨by (try simp only [hl5_3]);(try simp only [hl5_4]);(try simp only [hl5_5]);exact kP BK132.out⟩, ⟨by exact bB⟩⟩
                        ·replace c31 := Bool.eq_false_iff.mpr c31
                         subst c31
                         have H1 : (spec_l2Dist.l4 k5 x3_1 x4_1 x5_5 x7_3 x8_4 (wrap64 (x9_5 + 1)) a0_0 l0_1) = some r := by rw [if_neg (show ¬ (false = true) by decide)] at H;exact H
                         clear H
                         have H := H1
                         clear H1
                         have H' := Aside0.mk H
                         clear H
                         have hcz37_0 : wr.cell? ⟨gb132, 0, none⟩ = some (.int .i64 a0_0) := (blk_cell BK132.out 0).trans rfl
                         have hcz37_1 : wr.cell? ⟨gb132, 1, none⟩ = some (.slice A0_1 l0_1.length c0_1) := (blk_cell BK132.out 1).trans rfl
                         have hfz37_0 := blk_frozen BK132.out 0
                         have hfz37_1 := blk_frozen BK132.out 1
                         have p146 : 0 ≤ (x8_4 : Int) := oA
                         have q146 : x8_4 < (x5_5.length : Int) := oA
                         obtain ⟨ad146, e146, hx146_0⟩ := Kd.at_int (Kd.R_reads' HO_5.out).2.2 x8_4 p146 q146
                         obtain rfl : (⟨go15, 0, none⟩ : Addr) = ad146 := (by injection e146)
                         (first | simp only [add_plain] at hx146_0 | simp only [add_at] at hx146_0 | simp only [Addr.add, Nat.zero_add] at hx146_0 | skip)
                         replace p146 := eq_true p146
                         replace q146 := eq_true q146
                         have p147 : 0 ≤ (x9_5 : Int) := oA
                         have q147 : x9_5 < (x5_5.length : Int) := oA
                         obtain ⟨ad147, e147, hx147_0⟩ := Kd.at_int (Kd.R_reads' HO_5.out).2.2 x9_5 p147 q147
                         obtain rfl : (⟨go15, 0, none⟩ : Addr) = ad147 := (by injection e147)
                         (first | simp only [add_plain] at hx147_0 | simp only [add_at] at hx147_0 | simp only [Addr.add, Nat.zero_add] at hx147_0 | skip)
                         replace p147 := eq_true p147
                         replace q147 := eq_true q147
                         go_wp2_with (first | (go_at_call 63;(with_reducible refine (spec_l2Near.calls k5 a0_0 _ _ l0_1 x8_4 x9_5 false _ ?side1 ?side2 A30.out).mono ?_);(case side1 => exact cP (Kd.C_below HR0_1.out HB.out));(case side2 => exact HC0_1.out);rintro e w38 ⟨rfl, hb⟩;have n0_ := Aside0.mk (Kd.S_below (by (with_reducible repeat (first | apply Kd.S_alloc | apply Kd.S_drewN | apply Kd.S_drew));exact HO_3.out) hb);have n1_ := Aside0.mk (Kd.R_below (by exact rP HO_5.out) hb);have n2_ := Aside0.mk (blk_below (g := gb132) (o := .cells #[.int .i64 a0_0, .slice A0_1 l0_1.length c0_1] 29 (0, 0)) (by exact kP BK132.out) hb);have n3_ := Aside0.mk (below_step (by exact bB) hb);clear HO_3;clear HO_5;clear BK132;clear HB;have HO_3 := n0_;have HO_5 := n1_;have BK132 := n2_;have HB := n3_;clear n0_ n1_ n2_ n3_;(try clear hb);(try clear hb2);(try clear hk);(try clear hi)))
                         (try simp only [← hl5_5])
                         go_roundg k5
                         case measure => have := HK1.out;have := HK2.out;have := HK3.out;have := HK4.out;have := HK5.out;omega
                         case rel => exact ⟨(x5_5), (wrap64 (x9_5 + 1)), (by first | rfl | (simp;done) | (simp [*];done)), H', ⟨by have := HK1.out;have := HK2.out;have := HK3.out;have := HK4.out;have := HK5.out;omega⟩, ⟨by (try simp only [hl5_3]);(try simp only [hl5_4]);(try simp only [hl5_5]);(with_reducible repeat (first | apply Kd.S_alloc | apply Kd.S_drewN | apply Kd.S_drew));exact HO_3.out⟩, ⟨by (try simp only [hl5_3]);(try simp only [hl5_4]);(try simp only [hl5_5]);exact rP HO_5.out⟩, ⟨by (try simp only [hl5_3]);(try simp only [hl5_4]);(try simp only [hl5_5]);exact kP BK132.out⟩, ⟨by exact bB⟩⟩
                       ·rw [if_neg c29] at H
                        have c29b0 : decide ((rd x5_5 x9_5) < 0) = false := decide_eq_false c29
                        clear c29
                        have H' := Aside0.mk H
                        clear H
                        have hcz39_0 : wr.cell? ⟨gb132, 0, none⟩ = some (.int .i64 a0_0) := (blk_cell BK132.out 0).trans rfl
                        have hcz39_1 : wr.cell? ⟨gb132, 1, none⟩ = some (.slice A0_1 l0_1.length c0_1) := (blk_cell BK132.out 1).trans rfl
                        have hfz39_0 := blk_frozen BK132.out 0
                        have hfz39_1 := blk_frozen BK132.out 1
                        have p146 : 0 ≤ (x8_4 : Int) := oA
                        have q146 : x8_4 < (x5_5.length : Int) := oA
                        obtain ⟨ad146, e146, hx146_0⟩ := Kd.at_int (Kd.R_reads' HO_5.out).2.2 x8_4 p146 q146
                        obtain rfl : (⟨go15, 0, none⟩ : Addr) = ad146 := (by injection e146)
                        (first | simp only [add_plain] at hx146_0 | simp only [add_at] at hx146_0 | simp only [Addr.add, Nat.zero_add] at hx146_0 | skip)
                        replace p146 := eq_true p146
                        replace q146 := eq_true q146
                        have p147 : 0 ≤ (x9_5 : Int) := oA
                        have q147 : x9_5 < (x5_5.length : Int) := oA
                        obtain ⟨ad147, e147, hx147_0⟩ := Kd.at_int (Kd.R_reads' HO_5.out).2.2 x9_5 p147 q147
                        obtain rfl : (⟨go15, 0, none⟩ : Addr) = ad147 := (by injection e147)
                        (first | simp only [add_plain] at hx147_0 | simp only [add_at] at hx147_0 | simp only [Addr.add, Nat.zero_add] at hx147_0 | skip)
                        replace p147 := eq_true p147
                        replace q147 := eq_true q147
                        go_wp2
                        (try simp only [← hl5_5])
                        go_roundg k5
                        case measure => have := HK1.out;have := HK2.out;have := HK3.out;have := HK4.out;have := HK5.out;omega
                        case rel => exact ⟨(x5_5), (wrap64 (x9_5 + 1)), (by first | rfl | (simp;done) | (simp [*];done)), H', ⟨by have := HK1.out;have := HK2.out;have := HK3.out;have := HK4.out;have := HK5.out;omega⟩, ⟨by (try simp only [hl5_3]);(try simp only [hl5_4]);(try simp only [hl5_5]);(with_reducible repeat (first | apply Kd.S_alloc | apply Kd.S_drewN | apply Kd.S_drew));exact HO_3.out⟩, ⟨by (try simp only [hl5_3]);(try simp only [hl5_4]);(try simp only [hl5_5]);exact rP HO_5.out⟩, ⟨by (try simp only [hl5_3]);(try simp only [hl5_4]);(try simp only [hl5_5]);exact kP BK132.out⟩, ⟨by exact bB⟩⟩
                      ·rw [if_neg c28] at H
                       exact absurd H (by simp)
                     ·rw [if_neg c27] at H
                      exact absurd H (by simp)
                    ·rw [if_neg c26] at H
                     have c26b0 : ((rd x5_5 x8_4) == x7_3) = false := beq_eq_false_iff_ne.mpr c26
                     have c26b1 : ((rd x5_5 x8_4) != x7_3) = true := bne_iff_ne.mpr c26
                     have H' := Aside0.mk H
                     clear H
                     have hcz40_0 : wr.cell? ⟨gb132, 0, none⟩ = some (.int .i64 a0_0) := (blk_cell BK132.out 0).trans rfl
                     have hcz40_1 : wr.cell? ⟨gb132, 1, none⟩ = some (.slice A0_1 l0_1.length c0_1) := (blk_cell BK132.out 1).trans rfl
                     have hfz40_0 := blk_frozen BK132.out 0
                     have hfz40_1 := blk_frozen BK132.out 1
                     have p146 : 0 ≤ (x8_4 : Int) := oA
                     have q146 : x8_4 < (x5_5.length : Int) := oA
                     obtain ⟨ad146, e146, hx146_0⟩ := Kd.at_int (Kd.R_reads' HO_5.out).2.2 x8_4 p146 q146
                     obtain rfl : (⟨go15, 0, none⟩ : Addr) = ad146 := (by injection e146)
                     (first | simp only [add_plain] at hx146_0 | simp only [add_at] at hx146_0 | simp only [Addr.add, Nat.zero_add] at hx146_0 | skip)
                     replace p146 := eq_true p146
                     replace q146 := eq_true q146
                     go_wp2
                     (try simp only [← hl5_5])
                     go_roundg k5
                     case measure => have := HK1.out;have := HK2.out;have := HK3.out;have := HK4.out;have := HK5.out;omega
                     case rel => exact ⟨(x5_5), (wrap64 (x9_5 + 1)), (by first | rfl | (simp;done) | (simp [*];done)), H', ⟨by have := HK1.out;have := HK2.out;have := HK3.out;have := HK4.out;have := HK5.out;omega⟩, ⟨by (try simp only [hl5_3]);(try simp only [hl5_4]);(try simp only [hl5_5]);(with_reducible repeat (first | apply Kd.S_alloc | apply Kd.S_drewN | apply Kd.S_drew));exact HO_3.out⟩, ⟨by (try simp only [hl5_3]);(try simp only [hl5_4]);(try simp only [hl5_5]);exact rP HO_5.out⟩, ⟨by (try simp only [hl5_3]);(try simp only [hl5_4]);(try simp only [hl5_5]);exact kP BK132.out⟩, ⟨by exact bB⟩⟩
                   ·rw [if_neg c25] at H
                    exact absurd H (by simp)
                  ·rw [if_neg c24] at H
                   exact absurd H (by simp)
                 ·rw [if_neg c23] at H
                  have c23b0 : decide (x9_5 < a0_0) = false := decide_eq_false c23
                  clear c23
                  have H' := Aside0.mk H
                  clear H
                  have hcz41_0 : wr.cell? ⟨gb132, 0, none⟩ = some (.int .i64 a0_0) := (blk_cell BK132.out 0).trans rfl
                  have hcz41_1 : wr.cell? ⟨gb132, 1, none⟩ = some (.slice A0_1 l0_1.length c0_1) := (blk_cell BK132.out 1).trans rfl
                  have hfz41_0 := blk_frozen BK132.out 0
                  have hfz41_1 := blk_frozen BK132.out 1
                  go_wp2
                  (try simp only [← hl5_4, ← hl5_5])
                  go_roundg k5
                  case measure => have := HK1.out;have := HK2.out;have := HK3.out;have := HK4.out;have := HK5.out;omega
                  case rel => exact ⟨(x5_5), (wrap64 (x8_4 + 1)), (by first | rfl | (simp;done) | (simp [*];done)), H', ⟨by have := HK1.out;have := HK2.out;have := HK3.out;have := HK4.out;have := HK5.out;omega⟩, ⟨by (try simp only [hl5_3]);(try simp only [hl5_4]);(try simp only [hl5_5]);(with_reducible repeat (first | apply Kd.S_alloc | apply Kd.S_drewN | apply Kd.S_drew));exact HO_3.out⟩, ⟨by (try simp only [hl5_3]);(try simp only [hl5_4]);(try simp only [hl5_5]);exact rP HO_5.out⟩, ⟨by (try simp only [hl5_3]);(try simp only [hl5_4]);(try simp only [hl5_5]);exact kP BK132.out⟩, ⟨by exact bB⟩⟩
              ·rw [if_neg c21] at H
               have c21b0 : decide (x8_4 < a0_0) = false := decide_eq_false c21
               clear c21
               have H' := Aside0.mk H
               clear H
               have hcz42_0 : wr.cell? ⟨gb132, 0, none⟩ = some (.int .i64 a0_0) := (blk_cell BK132.out 0).trans rfl
               have hcz42_1 : wr.cell? ⟨gb132, 1, none⟩ = some (.slice A0_1 l0_1.length c0_1) := (blk_cell BK132.out 1).trans rfl
               have hfz42_0 := blk_frozen BK132.out 0
               have hfz42_1 := blk_frozen BK132.out 1
               go_wp2
               (try simp only [← hl5_3, ← hl5_4])
               go_roundg k4
               case measure => have := HK1.out;have := HK2.out;have := HK3.out;have := HK4.out;omega
               case rel => exact ⟨(x5_4), (wrap64 (x7_3 + 1)), (by first | rfl | (simp;done) | (simp [*];done)), H', ⟨by have := HK1.out;have := HK2.out;have := HK3.out;have := HK4.out;omega⟩, ⟨by (try simp only [hl5_3]);(try simp only [hl5_4]);(with_reducible repeat (first | apply Kd.S_alloc | apply Kd.S_drewN | apply Kd.S_drew));exact HO_3.out⟩, ⟨by (try simp only [hl5_3]);(try simp only [hl5_4]);exact rP HO_5.out⟩, ⟨by (try simp only [hl5_3]);(try simp only [hl5_4]);exact kP BK132.out⟩, ⟨by exact bB⟩⟩
           ·rw [if_neg c19] at H
            have c19b0 : decide (x7_3 < a0_0) = false := decide_eq_false c19
            clear c19
            by_cases c43 : x3_1.length < 5864062014805
            ·rw [if_pos c43] at H
             have LMc43 := Aside0.mk c43
             clear c43
             obtain ⟨y143, hy143⟩ : ∃ y_ : List (List Int), y_ = (x3_1 ++ [x5_3]) := ⟨_, rfl⟩
             replace H : (spec_l2Dist.l0 k3 y143 (wrap64 (x4_1 + 1)) a0_0 l0_1) = some r := by first | (rw [hy143];with_reducible exact H) | (have H2_ := (Option.bind_some _ _).symm.trans H;rw [hy143];with_reducible exact H2_) | (have H2_ := (Option.bind_some _ _).symm.trans H;with_reducible exact H2_) | with_reducible exact H | (rw [hy143];exact H) | exact H
             have Ny143 := Aside0.mk hy143
             clear hy143
             have H' := Aside0.mk H
             clear H
             have hcz44_0 : wr.cell? ⟨gb132, 0, none⟩ = some (.int .i64 a0_0) := (blk_cell BK132.out 0).trans rfl
             have hcz44_1 : wr.cell? ⟨gb132, 1, none⟩ = some (.slice A0_1 l0_1.length c0_1) := (blk_cell BK132.out 1).trans rfl
             have hfz44_0 := blk_frozen BK132.out 0
             have hfz44_1 := blk_frozen BK132.out 1
             go_wp2_with (first | ((with_reducible refine gate_builtin (b := .append) (xs := #[.tmp 72, .tmp 74]) rfl ?_);at_builtin;refine Kd.S_append (Kd.slice 3 (Kd.int .i64)) (w0 := w) w.heap.size rfl (.tmp 72) (.tmp 74) 37 25 (.slice none 0 0) 24 rfl Try.underlying37 info25 rfl (by decide) (by omega) u3 x3_1 x5_3 [.slice (some ⟨go15, 0, none⟩) x5_3.length co15] (fun _ => True) (fun k_ => some k_ = (.slice (some ⟨go15, 0, none⟩) x5_3.length co15 : Value).ownBlock) rfl rfl ?aP (fun k_ hk_ => ((Kd.R_mono (ok' := fun k_ => ((fun _ => True)) k_ ∧ some k_ ≠ (u3 : Value).ownBlock) (Kd.R_apart' (HO_5.out) (Kd.S_typed HO_3.out) (by decide)) (fun k_ hk => ⟨trivial, hk.2⟩))).1 k_ hk_.symm) ?aF ?aO ?aB ?aS ?aL ?_;(case aP => exact Kd.M_row (Kd.R_mono (Kd.R_tight rfl (Kd.R_mono (ok' := fun k_ => ((fun _ => True)) k_ ∧ some k_ ≠ (u3 : Value).ownBlock) (Kd.R_apart' (HO_5.out) (Kd.S_typed HO_3.out) (by decide)) (fun k_ hk => ⟨trivial, hk.2⟩))) (fun _ h_ => h_)));(case aB => exact (by exact bB));(case aF => exact (fun _ _ => trivial));(case aO => exact (by (with_reducible repeat (first | apply Kd.S_alloc | apply Kd.S_drewN | apply Kd.S_drew));exact Kd.S_mono HO_3.out (fun k_ hk => ⟨trivial, fun e_ => hk e_⟩)));(case aS => exact (below_size (by exact bB)));(case aL => have := LMc43.out;omega);intro v144 w45 ho hb hg hat;rw [← Ny143.out] at ho;have n0_ := Aside0.mk (blk_grown (g := gb132) (o := .cells #[.int .i64 a0_0, .slice A0_1 l0_1.length c0_1] 29 (0, 0)) (by exact kP BK132.out) hg (Kd.S_ne HO_3.out BK132.out (by decide)));have n1_ := Aside0.mk (hb);have n2_ := Aside0.mk (ho);clear BK132;clear HB;clear HO_3;clear HO_5;have BK132 := n0_;have HB := n1_;have HO145 := n2_;clear n0_ n1_ n2_;clear ho hb hg hat))
             (try simp only [← hl5_3])
             go_roundg k3
             case measure => have := HK1.out;have := HK2.out;have := HK3.out;omega
             case rel => exact ⟨(y143), (wrap64 (x4_1 + 1)), (by first | rfl | (simp;done) | (simp [*];done)), H', ⟨by have := HK1.out;have := HK2.out;have := HK3.out;omega⟩, ⟨by (try simp only [hl5_3]);(with_reducible repeat (first | apply Kd.S_alloc | apply Kd.S_drewN | apply Kd.S_drew));exact HO145.out⟩, ⟨by (try simp only [hl5_3]);exact kP BK132.out⟩, ⟨by exact bB⟩⟩
            ·rw [if_neg c43] at H
             exact absurd H (by simp)
        ·rw [if_neg c14] at H
         exact absurd H (by simp)
       ·rw [if_neg c13] at H
        exact absurd H (by simp)
   ·rw [if_neg c5] at H
    have c5b0 : decide (x4_1 < a0_0) = false := decide_eq_false c5
    clear c5
    obtain rfl := Option.some.inj H
    have hcz46_0 : wr.cell? ⟨gb132, 0, none⟩ = some (.int .i64 a0_0) := (blk_cell BK132.out 0).trans rfl
    have hcz46_1 : wr.cell? ⟨gb132, 1, none⟩ = some (.slice A0_1 l0_1.length c0_1) := (blk_cell BK132.out 1).trans rfl
    have hfz46_0 := blk_frozen BK132.out 0
    have hfz46_1 := blk_frozen BK132.out 1
    go_wp2
    go_ret
    exact ⟨_, by first | rfl | (simp [errW_none, errW_some] <;> rfl) | (simp [*, errW_none, errW_some] <;> rfl), by (with_reducible repeat (first | apply Kd.S_alloc | apply Kd.S_drewN | apply Kd.S_drew));exact HO_3.out, by exact bB⟩




end Go.Proofs.Ytaddgielnfhhpaa.QBurningNumber
