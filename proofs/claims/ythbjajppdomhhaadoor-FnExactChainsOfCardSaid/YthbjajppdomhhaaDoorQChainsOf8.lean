import Derived.Test.YthbjajppdomhhaaDoorQChainsOf0
import Derived.Test.YthbjajppdomhhaaDoorQChainsOf3
import Derived.Test.YthbjajppdomhhaaDoorQChainsOf4
import Derived.Test.YthbjajppdomhhaaDoorQChainsOf5
import Derived.Test.YthbjajppdomhhaaDoorQChainsOf6
namespace Go.Proofs.YthbjajppdomhhaaDoor.QChainsOf
open Go.RowKit Go.Proofs.YthbjajppdomhhaaDoorW.PrintWords Go.Proofs.YthbjajppdomhhaaDoorW.PrintLast Go.Proofs.YthbjajppdomhhaaDoorW.PrintMore
attribute [local go_sem] max2_int min2_int max_two min_two max_three min_three max_four min_four   -- for this text's walks alone
set_option linter.unusedVariables false
set_option linter.unusedSimpArgs false
/-! ### spec_l9Chains: function 60 -/
mutual
def spec_l9Chains.l0 : Nat → List Int → List (List Int) → Int → Int → List (S92) → Option ((List (List Int)))
 | 0, _, _, _, _, _ => none
 | k + 1, x1, x5, x6, x219000, x219001 => if x6 < (x1.length : Int) then (if 0 ≤ x6 then (if x5.length < 5864062014805 then (spec_l9Chains.l0 k x1 (x5 ++ [(([rd x1 x6] : List Int))]) (wrap64 (x6 + 1)) x219000 x219001) else (none)) else (none)) else ((spec_l1Own.f x1).bind fun t229 => (spec_l9Chains.l1 k x5 t229 x219000 x219001))
def spec_l9Chains.l1 : Nat → List (List Int) → List Int → Int → List (S92) → Option ((List (List Int)))
 | 0, _, _, _, _ => none
 | k + 1, x5, x7, x219000, x219001 => if (x7.length : Int) < x219000 then (spec_l9Chains.l2 k x5 x7 0 x219000 x219001) else (some x5)
def spec_l9Chains.l2 : Nat → List (List Int) → List Int → Int → Int → List (S92) → Option ((List (List Int)))
 | 0, _, _, _, _, _ => none
 | k + 1, x5, x7, x8, x219000, x219001 => (spec_l1Has.f k x7 x8).bind fun t232 => (if t232 = true then ((spec_l9Open.f k x219000 x219001 x7 x8).bind fun t233 => (if (t233.length : Int) = 1 then ((spec_l9Open.f k x219000 x219001 x7 x8).bind fun t236 => (if 0 < (t236.length : Int) then (spec_l9Chains.l3 k x5 x7 x8 (rd t236 0) 0 x219000 x219001) else (none))) else (spec_l9Chains.l2 k x5 x7 (wrap64 (x8 + 1)) x219000 x219001))) else (spec_l9Chains.l2 k x5 x7 (wrap64 (x8 + 1)) x219000 x219001))
def spec_l9Chains.l3 : Nat → List (List Int) → List Int → Int → Int → Int → Int → List (S92) → Option ((List (List Int)))
 | 0, _, _, _, _, _, _, _ => none
 | k + 1, x5, x7, x8, x9, x10, x219000, x219001 => if x10 < (x5.length : Int) then (if 0 ≤ x10 then (if 0 ≤ (wrap64 (((rd_L2 x5 x10).length : Int) - 1)) then (if (wrap64 (((rd_L2 x5 x10).length : Int) - 1)) < ((rd_L2 x5 x10).length : Int) then (if (rd (rd_L2 x5 x10) (wrap64 (((rd_L2 x5 x10).length : Int) - 1))) = x8 then (if (rd_L2 x5 x10).length < 17592186044416 then (spec_l9Chains.l3 k (x5.set (x10 : Int).toNat ((rd_L2 x5 x10) ++ [x9])) x7 x8 x9 (wrap64 (x10 + 1)) x219000 x219001) else (none)) else (spec_l9Chains.l3 k x5 x7 x8 x9 (wrap64 (x10 + 1)) x219000 x219001)) else (none)) else (none)) else (none)) else ((spec_l1Put.f x7 x9).bind fun t248 => (spec_l9Chains.l1 k x5 t248 x219000 x219001))
end
def spec_l9Chains.f (k : Nat) (a0_0 : Int) (l0_1 : List (S92)) (l1 : List Int) : Option ((List (List Int))) := spec_l9Chains.l0 k l1 (([] : List (List Int))) 0 a0_0 l0_1
theorem spec_l9Chains.mono_l : ∀ k, (∀ y0 y1 y2 y3 y4, LeO (spec_l9Chains.l0 k y0 y1 y2 y3 y4) (spec_l9Chains.l0 (k + 1) y0 y1 y2 y3 y4)) ∧ (∀ y0 y1 y2 y3, LeO (spec_l9Chains.l1 k y0 y1 y2 y3) (spec_l9Chains.l1 (k + 1) y0 y1 y2 y3)) ∧ (∀ y0 y1 y2 y3 y4, LeO (spec_l9Chains.l2 k y0 y1 y2 y3 y4) (spec_l9Chains.l2 (k + 1) y0 y1 y2 y3 y4)) ∧ (∀ y0 y1 y2 y3 y4 y5 y6, LeO (spec_l9Chains.l3 k y0 y1 y2 y3 y4 y5 y6) (spec_l9Chains.l3 (k + 1) y0 y1 y2 y3 y4 y5 y6))
 | 0 => ⟨fun _ _ _ _ _ r h => by simp [spec_l9Chains.l0] at h, fun _ _ _ _ r h => by simp [spec_l9Chains.l1] at h, fun _ _ _ _ _ r h => by simp [spec_l9Chains.l2] at h, fun _ _ _ _ _ _ _ r h => by simp [spec_l9Chains.l3] at h⟩
 | k + 1 => by
  obtain ⟨ih0, ih1, ih2, ih3⟩ := spec_l9Chains.mono_l k
  refine ⟨?_, ?_, ?_, ?_⟩
  ·intro y0 y1 y2 y3 y4
   unfold spec_l9Chains.l0
   repeat' first
   | (with_reducible exact ih0 _ _ _ _ _)
   | (with_reducible exact ih1 _ _ _ _)
   | (with_reducible exact ih2 _ _ _ _ _)
   | (with_reducible exact ih3 _ _ _ _ _ _ _)
   | (with_reducible exact spec_l1Has.mono _ _ _)
   | (with_reducible exact spec_l9Open.mono _ _ _ _ _)
   | (with_reducible exact LeO.refl _)
   | (with_reducible exact LeO.none _)
   | (with_reducible refine LeO.ite ?_ ?_)
   | (with_reducible refine LeO.bind ?_ (fun _ => ?_))
   | exact ih0 _ _ _ _ _
   | exact ih1 _ _ _ _
   | exact ih2 _ _ _ _ _
   | exact ih3 _ _ _ _ _ _ _
   | exact spec_l1Has.mono _ _ _
   | exact spec_l9Open.mono _ _ _ _ _
   | exact LeO.none _
   | refine LeO.ite ?_ ?_
   | refine LeO.bind ?_ (fun _ => ?_)
  ·intro y0 y1 y2 y3
   unfold spec_l9Chains.l1
   repeat' first
   | (with_reducible exact ih0 _ _ _ _ _)
   | (with_reducible exact ih1 _ _ _ _)
   | (with_reducible exact ih2 _ _ _ _ _)
   | (with_reducible exact ih3 _ _ _ _ _ _ _)
   | (with_reducible exact spec_l1Has.mono _ _ _)
   | (with_reducible exact spec_l9Open.mono _ _ _ _ _)
   | (with_reducible exact LeO.refl _)
   | (with_reducible exact LeO.none _)
   | (with_reducible refine LeO.ite ?_ ?_)
   | (with_reducible refine LeO.bind ?_ (fun _ => ?_))
   | exact ih0 _ _ _ _ _
   | exact ih1 _ _ _ _
   | exact ih2 _ _ _ _ _
   | exact ih3 _ _ _ _ _ _ _
   | exact spec_l1Has.mono _ _ _
   | exact spec_l9Open.mono _ _ _ _ _
   | exact LeO.none _
   | refine LeO.ite ?_ ?_
   | refine LeO.bind ?_ (fun _ => ?_)
  ·intro y0 y1 y2 y3 y4
   unfold spec_l9Chains.l2
   repeat' first
   | (with_reducible exact ih0 _ _ _ _ _)
   | (with_reducible exact ih1 _ _ _ _)
   | (with_reducible exact ih2 _ _ _ _ _)
   | (with_reducible exact ih3 _ _ _ _ _ _ _)
   | (with_reducible exact spec_l1Has.mono _ _ _)
   | (with_reducible exact spec_l9Open.mono _ _ _ _ _)
   | (with_reducible exact LeO.refl _)
   | (with_reducible exact LeO.none _)
   | (with_reducible refine LeO.ite ?_ ?_)
   | (with_reducible refine LeO.bind ?_ (fun _ => ?_))
   | exact ih0 _ _ _ _ _
   | exact ih1 _ _ _ _
   | exact ih2 _ _ _ _ _
   | exact ih3 _ _ _ _ _ _ _
   | exact spec_l1Has.mono _ _ _
   | exact spec_l9Open.mono _ _ _ _ _
   | exact LeO.none _
   | refine LeO.ite ?_ ?_
   | refine LeO.bind ?_ (fun _ => ?_)
  ·intro y0 y1 y2 y3 y4 y5 y6
   unfold spec_l9Chains.l3
   repeat' first
   | (with_reducible exact ih0 _ _ _ _ _)
   | (with_reducible exact ih1 _ _ _ _)
   | (with_reducible exact ih2 _ _ _ _ _)
   | (with_reducible exact ih3 _ _ _ _ _ _ _)
   | (with_reducible exact spec_l1Has.mono _ _ _)
   | (with_reducible exact spec_l9Open.mono _ _ _ _ _)
   | (with_reducible exact LeO.refl _)
   | (with_reducible exact LeO.none _)
   | (with_reducible refine LeO.ite ?_ ?_)
   | (with_reducible refine LeO.bind ?_ (fun _ => ?_))
   | exact ih0 _ _ _ _ _
   | exact ih1 _ _ _ _
   | exact ih2 _ _ _ _ _
   | exact ih3 _ _ _ _ _ _ _
   | exact spec_l1Has.mono _ _ _
   | exact spec_l9Open.mono _ _ _ _ _
   | exact LeO.none _
   | refine LeO.ite ?_ ?_
   | refine LeO.bind ?_ (fun _ => ?_)
theorem spec_l9Chains.mono : ∀ a0 a1 a2 k, LeO (spec_l9Chains.f k a0 a1 a2) (spec_l9Chains.f (k + 1) a0 a1 a2) := by
 intro a0 a1 a2 k
 obtain ⟨ih0, ih1, ih2, ih3⟩ := spec_l9Chains.mono_l k
 unfold spec_l9Chains.f
 repeat' first
   | (with_reducible exact ih0 _ _ _ _ _)
   | (with_reducible exact ih1 _ _ _ _)
   | (with_reducible exact ih2 _ _ _ _ _)
   | (with_reducible exact ih3 _ _ _ _ _ _ _)
   | (with_reducible exact spec_l1Has.mono _ _ _)
   | (with_reducible exact spec_l9Open.mono _ _ _ _ _)
   | (with_reducible exact LeO.refl _)
   | (with_reducible exact LeO.none _)
   | (with_reducible refine LeO.ite ?_ ?_)
   | (with_reducible refine LeO.bind ?_ (fun _ => ?_))
   | exact ih0 _ _ _ _ _
   | exact ih1 _ _ _ _
   | exact ih2 _ _ _ _ _
   | exact ih3 _ _ _ _ _ _ _
   | exact spec_l1Has.mono _ _ _
   | exact spec_l9Open.mono _ _ _ _ _
   | exact LeO.none _
   | refine LeO.ite ?_ ?_
   | refine LeO.bind ?_ (fun _ => ?_)
set_option maxHeartbeats 8000000 in
set_option maxRecDepth 100000 in
theorem spec_l9Chains.calls (k : Nat) (a0_0 : Int) (A0_1 : Option Addr) (c0_1 : Nat) (l0_1 : List (S92)) (A1 : Option Addr) (c1 : Nat) (l1 : List Int) (r : List (List Int)) (w : World) (hr0_1 : Kd.C k92 w A0_1 l0_1.length l0_1) (hc0_1 : l0_1.length ≤ c0_1) (hr1 : Kd.C (Kd.int .i64) w A1 l1.length l1) (hc1 : l1.length ≤ c1) (h : spec_l9Chains.f k a0_0 l0_1 l1 = some r) :
  Calls Tryd.prog 60 #[.agg #[.int .i64 a0_0, .slice A0_1 l0_1.length c0_1], .slice A1 l1.length c1] w fun e w' => ∃ v0_ : Value, e = .returned (v0_) ∧ Kd.S (Kd.slice 3 (Kd.int .i64)) 32 w' w.heap.size (fun _ => True) v0_ r ∧ Below w.heap.size w w' := by
 have hu28 := Tryd.underlying28
 have HR0_1 := Aside0.mk hr0_1
 have HC0_1 := Aside0.mk hc0_1
 clear hr0_1 hc0_1
 have HR1 := Aside0.mk hr1
 have HC1 := Aside0.mk hc1
 clear hr1 hc1
 have HB := Aside0.mk (Below.refl w.heap.size w)
 have H : (spec_l9Chains.l0 k l1 (([] : List (List Int))) 0 a0_0 l0_1) = some r := h
 clear h
 obtain ⟨y219, hy219⟩ : ∃ y_ : List (List Int), y_ = (([] : List (List Int))) := ⟨_, rfl⟩
 replace H : (spec_l9Chains.l0 k l1 y219 0 a0_0 l0_1) = some r := by first | (rw [hy219];with_reducible exact H) | (have H2_ := (Option.bind_some _ _).symm.trans H;rw [hy219];with_reducible exact H2_) | (have H2_ := (Option.bind_some _ _).symm.trans H;with_reducible exact H2_) | with_reducible exact H | (rw [hy219];exact H) | exact H
 have Ny219 := Aside0.mk hy219
 clear hy219
 have H' := Aside0.mk H
 clear H
 go_enter Tryd.func60, Tryd.ntmps60
 go_wp2_with (first | ((with_reducible refine gate_dst (N := 2) rfl ?_);(try (refine gate_guard (by rfl) ?_;dsimp only));refine box_event ?hg (N := 2) ?hd (cs := #[.int .i64 a0_0, .slice A0_1 l0_1.length c0_1]) (t := 28) ?hr ?_;(case hd => rfl);(case hg => rfl);(case hr => first | (go_simp;done) | (go_simp;rfl));intro gb218 hg w3 hbox hb;have n0_ := Aside0.mk (below_step (by exact bB) hb);have n1_ := Aside0.mk (hbox);have n2_ := Aside0.mk ((by rw [hg];exact (below_size (by exact bB)) : w.heap.size ≤ gb218));have n3_ := Aside0.mk ((by rw [hg];exact (below_size (by exact bB)) : w.heap.size ≤ gb218));clear HB;have HB := n0_;have BK218 := n1_;have GW218 := n2_;have GE218 := n3_;clear n0_ n1_ n2_ n3_;clear hb hbox hg) | ((with_reducible refine gate_dst (N := 11) rfl ?_);(try (refine gate_guard (by rfl) ?_;dsimp only));refine Kd.S_lit (Kd.slice 3 (Kd.int .i64)) _ 32 ?hg (N := 11) ?hd (xs := ([] : List (List Int))) (inner := []) (ok := fun _ => True) (okp := fun _ => True) ?hr ?hp (fun _ hk => hk) trivial (Below.refl _ _) (Nat.le_refl _) (by simp) ?_;(case hd => rfl);(case hg => rfl);(case hr => first | (go_simp;done) | (go_simp;rfl));(case hp => exact (Reps.none _ _));intro v220 w4 ho5 hb hg_ hnew_;clear hg_ hnew_;(first | rw [← Ny219.out] at ho5 | (simp only [Int.reduceToNat] at ho5;rw [← Ny219.out] at ho5));have n0_ := Aside0.mk (Kd.S_lower ho5 (below_size (by exact bB)));have n1_ := Aside0.mk (blk_below (g := gb218) (o := .cells #[.int .i64 a0_0, .slice A0_1 l0_1.length c0_1] 28 (0, 0)) (by exact kP BK218.out) hb);have n2_ := Aside0.mk (below_step (by exact bB) hb);clear BK218;clear HB;have HO221 := n0_;have BK218 := n1_;have HB := n2_;clear n0_ n1_ n2_;clear hb ho5))
 repeat (go_quiet (first | ((with_reducible refine gate_dst (N := 2) rfl ?_);(try (refine gate_guard (by rfl) ?_;dsimp only));refine box_event ?hg (N := 2) ?hd (cs := #[.int .i64 a0_0, .slice A0_1 l0_1.length c0_1]) (t := 28) ?hr ?_;(case hd => rfl);(case hg => rfl);(case hr => first | (go_simp;done) | (go_simp;rfl));intro gb218 hg w3 hbox hb;have n0_ := Aside0.mk (below_step (by exact bB) hb);have n1_ := Aside0.mk (hbox);have n2_ := Aside0.mk ((by rw [hg];exact (below_size (by exact bB)) : w.heap.size ≤ gb218));have n3_ := Aside0.mk ((by rw [hg];exact (below_size (by exact bB)) : w.heap.size ≤ gb218));clear HB;have HB := n0_;have BK218 := n1_;have GW218 := n2_;have GE218 := n3_;clear n0_ n1_ n2_ n3_;clear hb hbox hg) | ((with_reducible refine gate_dst (N := 11) rfl ?_);(try (refine gate_guard (by rfl) ?_;dsimp only));refine Kd.S_lit (Kd.slice 3 (Kd.int .i64)) _ 32 ?hg (N := 11) ?hd (xs := ([] : List (List Int))) (inner := []) (ok := fun _ => True) (okp := fun _ => True) ?hr ?hp (fun _ hk => hk) trivial (Below.refl _ _) (Nat.le_refl _) (by simp) ?_;(case hd => rfl);(case hg => rfl);(case hr => first | (go_simp;done) | (go_simp;rfl));(case hp => exact (Reps.none _ _));intro v220 w4 ho5 hb hg_ hnew_;clear hg_ hnew_;(first | rw [← Ny219.out] at ho5 | (simp only [Int.reduceToNat] at ho5;rw [← Ny219.out] at ho5));have n0_ := Aside0.mk (Kd.S_lower ho5 (below_size (by exact bB)));have n1_ := Aside0.mk (blk_below (g := gb218) (o := .cells #[.int .i64 a0_0, .slice A0_1 l0_1.length c0_1] 28 (0, 0)) (by exact kP BK218.out) hb);have n2_ := Aside0.mk (below_step (by exact bB) hb);clear BK218;clear HB;have HO221 := n0_;have BK218 := n1_;have HB := n2_;clear n0_ n1_ n2_;clear hb ho5));try go_wp2_with (first | ((with_reducible refine gate_dst (N := 2) rfl ?_);(try (refine gate_guard (by rfl) ?_;dsimp only));refine box_event ?hg (N := 2) ?hd (cs := #[.int .i64 a0_0, .slice A0_1 l0_1.length c0_1]) (t := 28) ?hr ?_;(case hd => rfl);(case hg => rfl);(case hr => first | (go_simp;done) | (go_simp;rfl));intro gb218 hg w3 hbox hb;have n0_ := Aside0.mk (below_step (by exact bB) hb);have n1_ := Aside0.mk (hbox);have n2_ := Aside0.mk ((by rw [hg];exact (below_size (by exact bB)) : w.heap.size ≤ gb218));have n3_ := Aside0.mk ((by rw [hg];exact (below_size (by exact bB)) : w.heap.size ≤ gb218));clear HB;have HB := n0_;have BK218 := n1_;have GW218 := n2_;have GE218 := n3_;clear n0_ n1_ n2_ n3_;clear hb hbox hg) | ((with_reducible refine gate_dst (N := 11) rfl ?_);(try (refine gate_guard (by rfl) ?_;dsimp only));refine Kd.S_lit (Kd.slice 3 (Kd.int .i64)) _ 32 ?hg (N := 11) ?hd (xs := ([] : List (List Int))) (inner := []) (ok := fun _ => True) (okp := fun _ => True) ?hr ?hp (fun _ hk => hk) trivial (Below.refl _ _) (Nat.le_refl _) (by simp) ?_;(case hd => rfl);(case hg => rfl);(case hr => first | (go_simp;done) | (go_simp;rfl));(case hp => exact (Reps.none _ _));intro v220 w4 ho5 hb hg_ hnew_;clear hg_ hnew_;(first | rw [← Ny219.out] at ho5 | (simp only [Int.reduceToNat] at ho5;rw [← Ny219.out] at ho5));have n0_ := Aside0.mk (Kd.S_lower ho5 (below_size (by exact bB)));have n1_ := Aside0.mk (blk_below (g := gb218) (o := .cells #[.int .i64 a0_0, .slice A0_1 l0_1.length c0_1] 28 (0, 0)) (by exact kP BK218.out) hb);have n2_ := Aside0.mk (below_step (by exact bB) hb);clear BK218;clear HB;have HO221 := n0_;have BK218 := n1_;have HB := n2_;clear n0_ n1_ n2_;clear hb ho5)))
 go_loopg [5, 6] k (fun kq v5 v6 w' => ∃ (x5_1 : List (List Int)) (x6_1 : Int), v6 = .int .i64 x6_1 ∧ Aside0 (spec_l9Chains.l0 kq l1 x5_1 x6_1 a0_0 l0_1 = some r) ∧ Aside0 (kq ≤ k) ∧ Aside0 (Kd.S (Kd.slice 3 (Kd.int .i64)) 32 w' w.heap.size (fun _ => True) v5 x5_1) ∧ Aside0 (w'.heap[gb218]? = some (.cells #[.int .i64 a0_0, (.slice A0_1 l0_1.length c0_1)] 28 (0, 0))) ∧ Aside0 (Below w.heap.size w w'))
 case atStart => exact ⟨(y219), (0), (by first | rfl | (simp;done) | (simp [*];done)), H', ⟨Nat.le_refl _⟩, ⟨by (with_reducible repeat (first | apply Kd.S_alloc | apply Kd.S_drewN | apply Kd.S_drew));exact HO221.out⟩, ⟨by exact kP BK218.out⟩, ⟨by exact bB⟩⟩
 case round =>
  clear H'
  try clear c1
  try clear p2
  obtain ⟨x5_1, x6_1, rfl, HA, HK1, HO_5, BK218, HB⟩ := hrel
  cases gk with
  | zero => exact absurd HA.out (by simp [spec_l9Chains.l0])
  | succ k1 =>
   have H := HA.out
   clear HA
   simp only [spec_l9Chains.l0] at H
   by_cases c6 : x6_1 < (l1.length : Int)
   ·rw [if_pos c6] at H
    have c6b0 : decide (x6_1 < (l1.length : Int)) = true := decide_eq_true c6
    clear c6
    by_cases c7 : 0 ≤ x6_1
    ·rw [if_pos c7] at H
     have c7b0 : decide (0 ≤ x6_1) = true := decide_eq_true c7
     clear c7
     obtain ⟨y223, hy223⟩ : ∃ y_ : List Int, y_ = (([rd l1 x6_1] : List Int)) := ⟨_, rfl⟩
     replace H : (if x5_1.length < 5864062014805 then (spec_l9Chains.l0 k1 l1 (x5_1 ++ [y223]) (wrap64 (x6_1 + 1)) a0_0 l0_1) else (none)) = some r := by first | (rw [hy223];with_reducible exact H) | (have H2_ := (Option.bind_some _ _).symm.trans H;rw [hy223];with_reducible exact H2_) | (have H2_ := (Option.bind_some _ _).symm.trans H;with_reducible exact H2_) | with_reducible exact H | (rw [hy223];exact H) | exact H
     have Ny223 := Aside0.mk hy223
     clear hy223
     by_cases c8 : x5_1.length < 5864062014805
     ·rw [if_pos c8] at H
      have LMc8 := Aside0.mk c8
      clear c8
      obtain ⟨y226, hy226⟩ : ∃ y_ : List (List Int), y_ = (x5_1 ++ [y223]) := ⟨_, rfl⟩
      replace H : (spec_l9Chains.l0 k1 l1 y226 (wrap64 (x6_1 + 1)) a0_0 l0_1) = some r := by first | (rw [hy226];with_reducible exact H) | (have H2_ := (Option.bind_some _ _).symm.trans H;rw [hy226];with_reducible exact H2_) | (have H2_ := (Option.bind_some _ _).symm.trans H;with_reducible exact H2_) | with_reducible exact H | (rw [hy226];exact H) | exact H
      have Ny226 := Aside0.mk hy226
      clear hy226
      have H' := Aside0.mk H
      clear H
      have p222 : 0 ≤ (x6_1 : Int) := oA
      have q222 : x6_1 < (l1.length : Int) := oA
      obtain ⟨ad222, e222, hx222_0⟩ := Kd.at_int HR1.out x6_1 p222 q222
      cases e222
      replace hx222_0 := (HB.out.cell (World.block_lt_of_cell? w _ hx222_0)).trans hx222_0
      replace p222 := eq_true p222
      replace q222 := eq_true q222
      go_wp2_with (first | ((with_reducible refine gate_dst (N := 23) rfl ?_);(try (refine gate_guard (by rfl) ?_;dsimp only));refine Kd.R_lit (Kd.int .i64) _ 3 ?hg (N := 23) ?hd (xs := ([rd l1 x6_1] : List Int)) (inner := [.int .i64 (rd l1 x6_1)]) (ok := fun _ => True) (okp := fun _ => True) ?hr ?hp (fun _ hk => hk) trivial (Below.refl _ _) (Nat.le_refl _) (by simp) ?_;(case hd => rfl);(case hg => rfl);(case hr => first | (go_simp;done) | (go_simp;rfl));(case hp => exact (Reps.one (show Kd.M (Kd.int .i64) _ _ _ (rd l1 x6_1) [.int .i64 (rd l1 x6_1)] from rfl) (Reps.none _ _)));intro v224 w9 ho10 hb hg_ hnew_;clear hg_ hnew_;(first | rw [← Ny223.out] at ho10 | (simp only [Int.reduceToNat] at ho10;rw [← Ny223.out] at ho10));have n0_ := Aside0.mk (Kd.S_elder' (by (with_reducible repeat (first | apply Kd.S_alloc | apply Kd.S_drewN | apply Kd.S_drew));exact HO_5.out) (Kd.R_base ho10) hb);have n1_ := Aside0.mk (Kd.R_lower ho10 (below_size (by exact bB)));have n2_ := Aside0.mk (blk_below (g := gb218) (o := .cells #[.int .i64 a0_0, .slice A0_1 l0_1.length c0_1] 28 (0, 0)) (by exact kP BK218.out) hb);have n3_ := Aside0.mk (below_step (by exact bB) hb);clear HO_5;clear BK218;clear HB;have HO_5 := n0_;have HO225 := n1_;have BK218 := n2_;have HB := n3_;clear n0_ n1_ n2_ n3_;clear hb ho10;obtain ⟨Ao12, co12, eo12⟩ := Kd.R_slice HO225.out;subst eo12) | ((with_reducible refine gate_builtin (b := .append) (xs := #[.tmp 18, .tmp 24]) rfl ?_);(try (refine gate_guard (by rfl) ?_;dsimp only));at_builtin;refine Kd.S_append (Kd.slice 3 (Kd.int .i64)) (w0 := w) w.heap.size rfl (.tmp 18) (.tmp 24) 38 32 (.slice none 0 0) 24 rfl Tryd.underlying38 info32 rfl (by decide) (by omega) u5 x5_1 y223 [.slice Ao12 y223.length co12] (fun _ => True) (fun k_ => some k_ = (.slice Ao12 y223.length co12 : Value).ownBlock) rfl rfl ?aP (fun k_ hk_ => ((Kd.R_mono (ok' := fun k_ => ((fun _ => True)) k_ ∧ some k_ ≠ (u5 : Value).ownBlock) (Kd.R_apart' (HO225.out) (Kd.S_typed HO_5.out) (by decide)) (fun k_ hk => ⟨trivial, hk.2⟩))).1 k_ hk_.symm) ?aF ?aO ?aB ?aS ?aL ?_;(case aP => exact Kd.M_row (Kd.R_mono (Kd.R_tight rfl (Kd.R_mono (ok' := fun k_ => ((fun _ => True)) k_ ∧ some k_ ≠ (u5 : Value).ownBlock) (Kd.R_apart' (HO225.out) (Kd.S_typed HO_5.out) (by decide)) (fun k_ hk => ⟨trivial, hk.2⟩))) (fun _ h_ => h_)));(case aB => exact (by exact bB));(case aF => exact (fun _ _ => trivial));(case aO => exact (by (with_reducible repeat (first | apply Kd.S_alloc | apply Kd.S_drewN | apply Kd.S_drew));exact Kd.S_mono HO_5.out (fun k_ hk => ⟨trivial, fun e_ => hk.2 e_⟩)));(case aS => exact (below_size (by exact bB)));(case aL => have := LMc8.out;omega);intro v227 w11 ho hb hg hat;rw [← Ny226.out] at ho;have n0_ := Aside0.mk (blk_grown (g := gb218) (o := .cells #[.int .i64 a0_0, .slice A0_1 l0_1.length c0_1] 28 (0, 0)) (by exact kP BK218.out) hg (Kd.S_ne HO_5.out BK218.out (by decide)));have n1_ := Aside0.mk (hb);have n2_ := Aside0.mk (ho);clear BK218;clear HB;clear HO_5;clear HO225;have BK218 := n0_;have HB := n1_;have HO228 := n2_;clear n0_ n1_ n2_;clear ho hb hg hat))
      repeat (go_quiet (first | ((with_reducible refine gate_dst (N := 23) rfl ?_);(try (refine gate_guard (by rfl) ?_;dsimp only));refine Kd.R_lit (Kd.int .i64) _ 3 ?hg (N := 23) ?hd (xs := ([rd l1 x6_1] : List Int)) (inner := [.int .i64 (rd l1 x6_1)]) (ok := fun _ => True) (okp := fun _ => True) ?hr ?hp (fun _ hk => hk) trivial (Below.refl _ _) (Nat.le_refl _) (by simp) ?_;(case hd => rfl);(case hg => rfl);(case hr => first | (go_simp;done) | (go_simp;rfl));(case hp => exact (Reps.one (show Kd.M (Kd.int .i64) _ _ _ (rd l1 x6_1) [.int .i64 (rd l1 x6_1)] from rfl) (Reps.none _ _)));intro v224 w9 ho10 hb hg_ hnew_;clear hg_ hnew_;(first | rw [← Ny223.out] at ho10 | (simp only [Int.reduceToNat] at ho10;rw [← Ny223.out] at ho10));have n0_ := Aside0.mk (Kd.S_elder' (by (with_reducible repeat (first | apply Kd.S_alloc | apply Kd.S_drewN | apply Kd.S_drew));exact HO_5.out) (Kd.R_base ho10) hb);have n1_ := Aside0.mk (Kd.R_lower ho10 (below_size (by exact bB)));have n2_ := Aside0.mk (blk_below (g := gb218) (o := .cells #[.int .i64 a0_0, .slice A0_1 l0_1.length c0_1] 28 (0, 0)) (by exact kP BK218.out) hb);have n3_ := Aside0.mk (below_step (by exact bB) hb);clear HO_5;clear BK218;clear HB;have HO_5 := n0_;have HO225 := n1_;have BK218 := n2_;have HB := n3_;clear n0_ n1_ n2_ n3_;clear hb ho10;obtain ⟨Ao12, co12, eo12⟩ := Kd.R_slice HO225.out;subst eo12) | ((with_reducible refine gate_builtin (b := .append) (xs := #[.tmp 18, .tmp 24]) rfl ?_);(try (refine gate_guard (by rfl) ?_;dsimp only));at_builtin;refine Kd.S_append (Kd.slice 3 (Kd.int .i64)) (w0 := w) w.heap.size rfl (.tmp 18) (.tmp 24) 38 32 (.slice none 0 0) 24 rfl Tryd.underlying38 info32 rfl (by decide) (by omega) u5 x5_1 y223 [.slice Ao12 y223.length co12] (fun _ => True) (fun k_ => some k_ = (.slice Ao12 y223.length co12 : Value).ownBlock) rfl rfl ?aP (fun k_ hk_ => ((Kd.R_mono (ok' := fun k_ => ((fun _ => True)) k_ ∧ some k_ ≠ (u5 : Value).ownBlock) (Kd.R_apart' (HO225.out) (Kd.S_typed HO_5.out) (by decide)) (fun k_ hk => ⟨trivial, hk.2⟩))).1 k_ hk_.symm) ?aF ?aO ?aB ?aS ?aL ?_;(case aP => exact Kd.M_row (Kd.R_mono (Kd.R_tight rfl (Kd.R_mono (ok' := fun k_ => ((fun _ => True)) k_ ∧ some k_ ≠ (u5 : Value).ownBlock) (Kd.R_apart' (HO225.out) (Kd.S_typed HO_5.out) (by decide)) (fun k_ hk => ⟨trivial, hk.2⟩))) (fun _ h_ => h_)));(case aB => exact (by exact bB));(case aF => exact (fun _ _ => trivial));(case aO => exact (by (with_reducible repeat (first | apply Kd.S_alloc | apply Kd.S_drewN | apply Kd.S_drew));exact Kd.S_mono HO_5.out (fun k_ hk => ⟨trivial, fun e_ => hk.2 e_⟩)));(case aS => exact (below_size (by exact bB)));(case aL => have := LMc8.out;omega);intro v227 w11 ho hb hg hat;rw [← Ny226.out] at ho;have n0_ := Aside0.mk (blk_grown (g := gb218) (o := .cells #[.int .i64 a0_0, .slice A0_1 l0_1.length c0_1] 28 (0, 0)) (by exact kP BK218.out) hg (Kd.S_ne HO_5.out BK218.out (by decide)));have n1_ := Aside0.mk (hb);have n2_ := Aside0.mk (ho);clear BK218;clear HB;clear HO_5;clear HO225;have BK218 := n0_;have HB := n1_;have HO228 := n2_;clear n0_ n1_ n2_;clear ho hb hg hat));try go_wp2_with (first | ((with_reducible refine gate_dst (N := 23) rfl ?_);(try (refine gate_guard (by rfl) ?_;dsimp only));refine Kd.R_lit (Kd.int .i64) _ 3 ?hg (N := 23) ?hd (xs := ([rd l1 x6_1] : List Int)) (inner := [.int .i64 (rd l1 x6_1)]) (ok := fun _ => True) (okp := fun _ => True) ?hr ?hp (fun _ hk => hk) trivial (Below.refl _ _) (Nat.le_refl _) (by simp) ?_;(case hd => rfl);(case hg => rfl);(case hr => first | (go_simp;done) | (go_simp;rfl));(case hp => exact (Reps.one (show Kd.M (Kd.int .i64) _ _ _ (rd l1 x6_1) [.int .i64 (rd l1 x6_1)] from rfl) (Reps.none _ _)));intro v224 w9 ho10 hb hg_ hnew_;clear hg_ hnew_;(first | rw [← Ny223.out] at ho10 | (simp only [Int.reduceToNat] at ho10;rw [← Ny223.out] at ho10));have n0_ := Aside0.mk (Kd.S_elder' (by (with_reducible repeat (first | apply Kd.S_alloc | apply Kd.S_drewN | apply Kd.S_drew));exact HO_5.out) (Kd.R_base ho10) hb);have n1_ := Aside0.mk (Kd.R_lower ho10 (below_size (by exact bB)));have n2_ := Aside0.mk (blk_below (g := gb218) (o := .cells #[.int .i64 a0_0, .slice A0_1 l0_1.length c0_1] 28 (0, 0)) (by exact kP BK218.out) hb);have n3_ := Aside0.mk (below_step (by exact bB) hb);clear HO_5;clear BK218;clear HB;have HO_5 := n0_;have HO225 := n1_;have BK218 := n2_;have HB := n3_;clear n0_ n1_ n2_ n3_;clear hb ho10;obtain ⟨Ao12, co12, eo12⟩ := Kd.R_slice HO225.out;subst eo12) | ((with_reducible refine gate_builtin (b := .append) (xs := #[.tmp 18, .tmp 24]) rfl ?_);(try (refine gate_guard (by rfl) ?_;dsimp only));at_builtin;refine Kd.S_append (Kd.slice 3 (Kd.int .i64)) (w0 := w) w.heap.size rfl (.tmp 18) (.tmp 24) 38 32 (.slice none 0 0) 24 rfl Tryd.underlying38 info32 rfl (by decide) (by omega) u5 x5_1 y223 [.slice Ao12 y223.length co12] (fun _ => True) (fun k_ => some k_ = (.slice Ao12 y223.length co12 : Value).ownBlock) rfl rfl ?aP (fun k_ hk_ => ((Kd.R_mono (ok' := fun k_ => ((fun _ => True)) k_ ∧ some k_ ≠ (u5 : Value).ownBlock) (Kd.R_apart' (HO225.out) (Kd.S_typed HO_5.out) (by decide)) (fun k_ hk => ⟨trivial, hk.2⟩))).1 k_ hk_.symm) ?aF ?aO ?aB ?aS ?aL ?_;(case aP => exact Kd.M_row (Kd.R_mono (Kd.R_tight rfl (Kd.R_mono (ok' := fun k_ => ((fun _ => True)) k_ ∧ some k_ ≠ (u5 : Value).ownBlock) (Kd.R_apart' (HO225.out) (Kd.S_typed HO_5.out) (by decide)) (fun k_ hk => ⟨trivial, hk.2⟩))) (fun _ h_ => h_)));(case aB => exact (by exact bB));(case aF => exact (fun _ _ => trivial));(case aO => exact (by (with_reducible repeat (first | apply Kd.S_alloc | apply Kd.S_drewN | apply Kd.S_drew));exact Kd.S_mono HO_5.out (fun k_ hk => ⟨trivial, fun e_ => hk.2 e_⟩)));(case aS => exact (below_size (by exact bB)));(case aL => have := LMc8.out;omega);intro v227 w11 ho hb hg hat;rw [← Ny226.out] at ho;have n0_ := Aside0.mk (blk_grown (g := gb218) (o := .cells #[.int .i64 a0_0, .slice A0_1 l0_1.length c0_1] 28 (0, 0)) (by exact kP BK218.out) hg (Kd.S_ne HO_5.out BK218.out (by decide)));have n1_ := Aside0.mk (hb);have n2_ := Aside0.mk (ho);clear BK218;clear HB;clear HO_5;clear HO225;have BK218 := n0_;have HB := n1_;have HO228 := n2_;clear n0_ n1_ n2_;clear ho hb hg hat)))
      go_roundg k1
      case measure => have := HK1.out;omega
      case rel => exact ⟨(y226), (wrap64 (x6_1 + 1)), (by first | rfl | (simp;done) | (simp [*];done)), H', ⟨by have := HK1.out;omega⟩, ⟨by (with_reducible repeat (first | apply Kd.S_alloc | apply Kd.S_drewN | apply Kd.S_drew));exact HO228.out⟩, ⟨by exact kP BK218.out⟩, ⟨by exact bB⟩⟩
     ·rw [if_neg c8] at H
      exact absurd H (by simp)
    ·rw [if_neg c7] at H
     exact absurd H (by simp)
   ·rw [if_neg c6] at H
    have c6b0 : decide (x6_1 < (l1.length : Int)) = false := decide_eq_false c6
    clear c6
    replace H := Option.bind_eq_some_iff.mp H
    obtain ⟨t229, A130, H⟩ := H
    replace H : (spec_l9Chains.l1 k1 x5_1 t229 a0_0 l0_1) = some r := H
    have A13 := Aside0.mk A130
    clear A130
    have H' := Aside0.mk H
    clear H
    go_wp2_with (first | (go_at_call 83;(with_reducible refine (spec_l1Own.calls _ _ l1 t229 _ ?side1 ?side2 A13.out).mono ?_);(case side1 => exact cP (Kd.C_below HR1.out HB.out));(case side2 => exact HC1.out);rintro e w14 ⟨v230, rfl, ho0, hb⟩;have n0_ := Aside0.mk (Kd.S_elder' (by (with_reducible repeat (first | apply Kd.S_alloc | apply Kd.S_drewN | apply Kd.S_drew));exact HO_5.out) (Kd.R_base ho0) hb);have n1_ := Aside0.mk (Kd.R_lower ho0 (below_size (by exact bB)));have n2_ := Aside0.mk (blk_below (g := gb218) (o := .cells #[.int .i64 a0_0, .slice A0_1 l0_1.length c0_1] 28 (0, 0)) (by exact kP BK218.out) hb);have n3_ := Aside0.mk (below_step (by exact bB) hb);clear HO_5;clear BK218;clear HB;have HO_5 := n0_;have HO231 := n1_;have BK218 := n2_;have HB := n3_;clear n0_ n1_ n2_ n3_;(try clear hb);(try clear hb2);(try clear hk);(try clear hi);(try clear ho0)))
    repeat (go_quiet (first | (go_at_call 83;(with_reducible refine (spec_l1Own.calls _ _ l1 t229 _ ?side1 ?side2 A13.out).mono ?_);(case side1 => exact cP (Kd.C_below HR1.out HB.out));(case side2 => exact HC1.out);rintro e w14 ⟨v230, rfl, ho0, hb⟩;have n0_ := Aside0.mk (Kd.S_elder' (by (with_reducible repeat (first | apply Kd.S_alloc | apply Kd.S_drewN | apply Kd.S_drew));exact HO_5.out) (Kd.R_base ho0) hb);have n1_ := Aside0.mk (Kd.R_lower ho0 (below_size (by exact bB)));have n2_ := Aside0.mk (blk_below (g := gb218) (o := .cells #[.int .i64 a0_0, .slice A0_1 l0_1.length c0_1] 28 (0, 0)) (by exact kP BK218.out) hb);have n3_ := Aside0.mk (below_step (by exact bB) hb);clear HO_5;clear BK218;clear HB;have HO_5 := n0_;have HO231 := n1_;have BK218 := n2_;have HB := n3_;clear n0_ n1_ n2_ n3_;(try clear hb);(try clear hb2);(try clear hk);(try clear hi);(try clear ho0)));try go_wp2_with (first | (go_at_call 83;(with_reducible refine (spec_l1Own.calls _ _ l1 t229 _ ?side1 ?side2 A13.out).mono ?_);(case side1 => exact cP (Kd.C_below HR1.out HB.out));(case side2 => exact HC1.out);rintro e w14 ⟨v230, rfl, ho0, hb⟩;have n0_ := Aside0.mk (Kd.S_elder' (by (with_reducible repeat (first | apply Kd.S_alloc | apply Kd.S_drewN | apply Kd.S_drew));exact HO_5.out) (Kd.R_base ho0) hb);have n1_ := Aside0.mk (Kd.R_lower ho0 (below_size (by exact bB)));have n2_ := Aside0.mk (blk_below (g := gb218) (o := .cells #[.int .i64 a0_0, .slice A0_1 l0_1.length c0_1] 28 (0, 0)) (by exact kP BK218.out) hb);have n3_ := Aside0.mk (below_step (by exact bB) hb);clear HO_5;clear BK218;clear HB;have HO_5 := n0_;have HO231 := n1_;have BK218 := n2_;have HB := n3_;clear n0_ n1_ n2_ n3_;(try clear hb);(try clear hb2);(try clear hk);(try clear hi);(try clear ho0))))
    go_loopg [7] k1 (fun kq v7 w' => ∃ (x5_2 : List (List Int)) (x7_2 : List Int), Aside0 (spec_l9Chains.l1 kq x5_2 x7_2 a0_0 l0_1 = some r) ∧ Aside0 (kq ≤ k1) ∧ Aside0 (Kd.S (Kd.slice 3 (Kd.int .i64)) 32 w' w.heap.size (fun k_ => some k_ ≠ (v7 : Value).ownBlock) u5 x5_2) ∧ Aside0 (Kd.R (Kd.int .i64) 3 w' w.heap.size (fun _ => True) v7 x7_2) ∧ Aside0 (w'.heap[gb218]? = some (.cells #[.int .i64 a0_0, (.slice A0_1 l0_1.length c0_1)] 28 (0, 0))) ∧ Aside0 (Below w.heap.size w w'))
    case atStart => exact ⟨(x5_1), (t229), H', ⟨Nat.le_refl _⟩, ⟨by (with_reducible repeat (first | apply Kd.S_alloc | apply Kd.S_drewN | apply Kd.S_drew));exact Kd.S_mono HO_5.out (fun _ hk => hk.2)⟩, ⟨by exact rP HO231.out⟩, ⟨by exact kP BK218.out⟩, ⟨by exact bB⟩⟩
    case round =>
     clear H'
     try clear c1
     try clear p2
     try clear q2
     try clear hx2
     try clear c6
     try clear c6b0
     try clear p6
     try clear c7
     try clear c7b0
     try clear c8
     try clear hx222_0
     try clear p2
     try clear p222
     try clear q222
     obtain ⟨x5_2, x7_2, HA, HK2, HO_5, HO_7, BK218, HB⟩ := hrel
     cases gk with
     | zero => exact absurd HA.out (by simp [spec_l9Chains.l1])
     | succ k2 =>
      have H := HA.out
      clear HA
      simp only [spec_l9Chains.l1] at H
      by_cases c15 : (x7_2.length : Int) < a0_0
      ·rw [if_pos c15] at H
       have c15b0 : decide ((x7_2.length : Int) < a0_0) = true := decide_eq_true c15
       clear c15
       have H' := Aside0.mk H
       clear H
       obtain ⟨Ao16, co16, eo16⟩ := Kd.R_slice HO_7.out
       subst eo16
       have hcz17_0 : wr.cell? ⟨gb218, 0, none⟩ = some (.int .i64 a0_0) := (blk_cell BK218.out 0).trans rfl
       have hcz17_1 : wr.cell? ⟨gb218, 1, none⟩ = some (.slice A0_1 l0_1.length c0_1) := (blk_cell BK218.out 1).trans rfl
       have hfz17_0 := blk_frozen BK218.out 0
       have hfz17_1 := blk_frozen BK218.out 1
       go_wp2
       repeat (go_quiet (fail);try go_wp2)
       go_loopg [8] k2 (fun kq v8 w' => ∃ (x8_3 : Int), v8 = .int .i64 x8_3 ∧ Aside0 (spec_l9Chains.l2 kq x5_2 x7_2 x8_3 a0_0 l0_1 = some r) ∧ Aside0 (kq ≤ k2) ∧ Aside0 (Kd.S (Kd.slice 3 (Kd.int .i64)) 32 w' w.heap.size (fun k_ => some k_ ≠ ((.slice Ao16 x7_2.length co16) : Value).ownBlock) u5 x5_2) ∧ Aside0 (Kd.R (Kd.int .i64) 3 w' w.heap.size (fun _ => True) (.slice Ao16 x7_2.length co16) x7_2) ∧ Aside0 (w'.heap[gb218]? = some (.cells #[.int .i64 a0_0, (.slice A0_1 l0_1.length c0_1)] 28 (0, 0))) ∧ Aside0 (Below w.heap.size w w'))
       case atStart => exact ⟨(0), (by first | rfl | (simp;done) | (simp [*];done)), H', ⟨Nat.le_refl _⟩, ⟨by (with_reducible repeat (first | apply Kd.S_alloc | apply Kd.S_drewN | apply Kd.S_drew));exact HO_5.out⟩, ⟨by exact rP HO_7.out⟩, ⟨by exact kP BK218.out⟩, ⟨by exact bB⟩⟩
       case round =>
        clear H'
        try clear c1
        try clear p2
        try clear q2
        try clear hx2
        try clear c6
        try clear c6b0
        try clear p6
        try clear c7
        try clear c7b0
        try clear c8
        try clear c15
        try clear c15b0
        try clear hcz17_0
        try clear hcz17_1
        try clear hfz17_0
        try clear hfz17_1
        try clear hx222_0
        try clear p2
        try clear p222
        try clear p6
        try clear q2
        try clear q222
        obtain ⟨x8_3, rfl, HA, HK3, HO_5, HO_7, BK218, HB⟩ := hrel
        cases gk with
        | zero => exact absurd HA.out (by simp [spec_l9Chains.l2])
        | succ k3 =>
         have H := HA.out
         clear HA
         simp only [spec_l9Chains.l2] at H
         replace H := Option.bind_eq_some_iff.mp H
         obtain ⟨t232, A180, H⟩ := H
         replace H : (if t232 = true then ((spec_l9Open.f k3 a0_0 l0_1 x7_2 x8_3).bind fun t233 => (if (t233.length : Int) = 1 then ((spec_l9Open.f k3 a0_0 l0_1 x7_2 x8_3).bind fun t236 => (if 0 < (t236.length : Int) then (spec_l9Chains.l3 k3 x5_2 x7_2 x8_3 (rd t236 0) 0 a0_0 l0_1) else (none))) else (spec_l9Chains.l2 k3 x5_2 x7_2 (wrap64 (x8_3 + 1)) a0_0 l0_1))) else (spec_l9Chains.l2 k3 x5_2 x7_2 (wrap64 (x8_3 + 1)) a0_0 l0_1)) = some r := H
         have A18 := Aside0.mk A180
         clear A180
         by_cases c19 : t232 = true
         ·subst c19
          have H1 : ((spec_l9Open.f k3 a0_0 l0_1 x7_2 x8_3).bind fun t233 => (if (t233.length : Int) = 1 then ((spec_l9Open.f k3 a0_0 l0_1 x7_2 x8_3).bind fun t236 => (if 0 < (t236.length : Int) then (spec_l9Chains.l3 k3 x5_2 x7_2 x8_3 (rd t236 0) 0 a0_0 l0_1) else (none))) else (spec_l9Chains.l2 k3 x5_2 x7_2 (wrap64 (x8_3 + 1)) a0_0 l0_1))) = some r := by rw [if_pos rfl] at H;exact H
          clear H
          have H := H1
          clear H1
          replace H := Option.bind_eq_some_iff.mp H
          obtain ⟨t233, A200, H⟩ := H
          replace H : (if (t233.length : Int) = 1 then ((spec_l9Open.f k3 a0_0 l0_1 x7_2 x8_3).bind fun t236 => (if 0 < (t236.length : Int) then (spec_l9Chains.l3 k3 x5_2 x7_2 x8_3 (rd t236 0) 0 a0_0 l0_1) else (none))) else (spec_l9Chains.l2 k3 x5_2 x7_2 (wrap64 (x8_3 + 1)) a0_0 l0_1)) = some r := H
          have A20 := Aside0.mk A200
          clear A200
          by_cases c21 : (t233.length : Int) = 1
          ·rw [if_pos c21] at H
           have c21b0 : ((t233.length : Int) == 1) = true := beq_iff_eq.mpr c21
           have c21b1 : ((t233.length : Int) != 1) = false := bne_eq_false_iff_eq.mpr c21
           clear c21
           replace H := Option.bind_eq_some_iff.mp H
           obtain ⟨t236, A220, H⟩ := H
           replace H : (if 0 < (t236.length : Int) then (spec_l9Chains.l3 k3 x5_2 x7_2 x8_3 (rd t236 0) 0 a0_0 l0_1) else (none)) = some r := H
           have A22 := Aside0.mk A220
           clear A220
           by_cases c23 : 0 < (t236.length : Int)
           ·rw [if_pos c23] at H
            have c23b0 : decide (0 < (t236.length : Int)) = true := decide_eq_true c23
            have c23b1 : decide (0 < t236.length) = true := decide_eq_true (by omega)
            clear c23
            have H' := Aside0.mk H
            clear H
            go_wp2_with (first | (go_at_call 69;(with_reducible refine (spec_l1Has.calls k3 _ _ x7_2 x8_3 true _ ?side1 ?side2 A18.out).mono ?_);(case side1 => exact cP (Kd.R_reads' HO_7.out).2.2);(case side2 => exact (Kd.R_reads' HO_7.out).2.1);rintro e w' ⟨rfl, ⟨nd, rfl⟩⟩;(try first | exact ⟨rfl, _, World.drewN_drewN _ _ _⟩ | exact ⟨rfl, _, Eq.trans (World.drewN_drewN _ _ _) (congrArg (World.drewN _) (Nat.add_assoc _ _ _))⟩);have hcz24_0 : wr.cell? ⟨gb218, 0, none⟩ = some (.int .i64 a0_0) := (blk_cell BK218.out 0).trans rfl;have hcz24_1 : wr.cell? ⟨gb218, 1, none⟩ = some (.slice A0_1 l0_1.length c0_1) := (blk_cell BK218.out 1).trans rfl;have hfz24_0 := blk_frozen BK218.out 0;have hfz24_1 := blk_frozen BK218.out 1) | (go_at_call 101;(with_reducible refine (spec_l9Open.calls k3 a0_0 _ _ l0_1 _ _ x7_2 x8_3 t236 _ ?side1 ?side2 ?side3 ?side4 A22.out).mono ?_);(case side1 => exact cP (Kd.C_below HR0_1.out HB.out));(case side2 => exact HC0_1.out);(case side3 => exact cP (Kd.R_reads' HO_7.out).2.2);(case side4 => exact (Kd.R_reads' HO_7.out).2.1);rintro e w28 ⟨v237, rfl, ho0, hb⟩;have n0_ := Aside0.mk (Kd.S_elder' (by (with_reducible repeat (first | apply Kd.S_alloc | apply Kd.S_drewN | apply Kd.S_drew));exact HO_5.out) (Kd.R_base ho0) hb);have n1_ := Aside0.mk (Kd.R_elder' (by exact rP HO_7.out) (Kd.R_base ho0) hb);have n2_ := Aside0.mk (Kd.R_elder' (by exact rP HO235.out) (Kd.R_base ho0) hb);have n3_ := Aside0.mk (Kd.R_lower (Kd.R_new' (Kd.R_new' ho0 (Kd.R_lt (by exact rP HO_7.out))) (Kd.R_lt (by exact rP HO235.out))) (below_size (by exact bB)));have n4_ := Aside0.mk (blk_below (g := gb218) (o := .cells #[.int .i64 a0_0, .slice A0_1 l0_1.length c0_1] 28 (0, 0)) (by exact kP BK218.out) hb);have n5_ := Aside0.mk (below_step (by exact bB) hb);clear HO_5;clear HO_7;clear HO235;clear BK218;clear HB;have HO_5 := n0_;have HO_7 := n1_;have HO235 := n2_;have HO238 := n3_;have BK218 := n4_;have HB := n5_;clear n0_ n1_ n2_ n3_ n4_ n5_;(try clear hb);(try clear hb2);(try clear hk);(try clear hi);(try clear ho0);obtain ⟨Ao29, co29, eo29⟩ := Kd.R_slice HO238.out;subst eo29;have p239 : 0 ≤ (0 : Int) := (by omega);have q239 : 0 < (t236.length : Int) := oA;obtain ⟨ad239, e239, hx239_0⟩ := Kd.at_int (Kd.R_reads' HO238.out).2.2 0 p239 q239;cases e239;have qi239 : (0 < t236.length) = True := eq_true (by omega);(try rw [show ((0 : Int)).toNat = 0 from rfl] at hx239_0);(try rw [Addr.add_zero'] at hx239_0);replace p239 := eq_true p239;replace q239 := eq_true q239) | (go_at_call 101;(with_reducible refine (spec_l9Open.calls k3 a0_0 _ _ l0_1 _ _ x7_2 x8_3 t233 _ ?side1 ?side2 ?side3 ?side4 A20.out).mono ?_);(case side1 => exact cP (Kd.C_below HR0_1.out (by repeat (first | (with_reducible first | exact HB.out | apply below_alloc | apply pw_below_drewN | apply below_drew1 | refine below_set ?_ GE218.out) | exact HB.out))));(case side2 => exact HC0_1.out);(case side3 => exact cP (Kd.R_reads' HO_7.out).2.2);(case side4 => exact (Kd.R_reads' HO_7.out).2.1);rintro e w25 ⟨v234, rfl, ho0, hb⟩;have n0_ := Aside0.mk (Kd.S_elder' (by (with_reducible repeat (first | apply Kd.S_alloc | apply Kd.S_drewN | apply Kd.S_drew));exact HO_5.out) (Kd.R_base ho0) hb);have n1_ := Aside0.mk (Kd.R_elder' (by exact rP HO_7.out) (Kd.R_base ho0) hb);have n2_ := Aside0.mk (Kd.R_lower (Kd.R_new' ho0 (Kd.R_lt (by exact rP HO_7.out))) (below_size (by exact bB)));have n3_ := Aside0.mk (blk_below (g := gb218) (o := .cells #[.int .i64 a0_0, .slice A0_1 l0_1.length c0_1] 28 (0, 0)) (by exact kP BK218.out) hb);have n4_ := Aside0.mk (below_step (by exact bB) hb);clear HO_5;clear HO_7;clear BK218;clear HB;have HO_5 := n0_;have HO_7 := n1_;have HO235 := n2_;have BK218 := n3_;have HB := n4_;clear n0_ n1_ n2_ n3_ n4_;(try clear hb);(try clear hb2);(try clear hk);(try clear hi);(try clear ho0);obtain ⟨Ao26, co26, eo26⟩ := Kd.R_slice HO235.out;subst eo26;have hcz27_0 : w25.cell? ⟨gb218, 0, none⟩ = some (.int .i64 a0_0) := (blk_cell BK218.out 0).trans rfl;have hcz27_1 : w25.cell? ⟨gb218, 1, none⟩ = some (.slice A0_1 l0_1.length c0_1) := (blk_cell BK218.out 1).trans rfl;have hfz27_0 := blk_frozen BK218.out 0;have hfz27_1 := blk_frozen BK218.out 1))
            repeat (go_quiet (first | (go_at_call 69;(with_reducible refine (spec_l1Has.calls k3 _ _ x7_2 x8_3 true _ ?side1 ?side2 A18.out).mono ?_);(case side1 => exact cP (Kd.R_reads' HO_7.out).2.2);(case side2 => exact (Kd.R_reads' HO_7.out).2.1);rintro e w' ⟨rfl, ⟨nd, rfl⟩⟩;(try first | exact ⟨rfl, _, World.drewN_drewN _ _ _⟩ | exact ⟨rfl, _, Eq.trans (World.drewN_drewN _ _ _) (congrArg (World.drewN _) (Nat.add_assoc _ _ _))⟩);have hcz24_0 : wr.cell? ⟨gb218, 0, none⟩ = some (.int .i64 a0_0) := (blk_cell BK218.out 0).trans rfl;have hcz24_1 : wr.cell? ⟨gb218, 1, none⟩ = some (.slice A0_1 l0_1.length c0_1) := (blk_cell BK218.out 1).trans rfl;have hfz24_0 := blk_frozen BK218.out 0;have hfz24_1 := blk_frozen BK218.out 1) | (go_at_call 101;(with_reducible refine (spec_l9Open.calls k3 a0_0 _ _ l0_1 _ _ x7_2 x8_3 t233 _ ?side1 ?side2 ?side3 ?side4 A20.out).mono ?_);(case side1 => exact cP (Kd.C_below HR0_1.out (by repeat (first | (with_reducible first | exact HB.out | apply below_alloc | apply pw_below_drewN | apply below_drew1 | refine below_set ?_ GE218.out) | exact HB.out))));(case side2 => exact HC0_1.out);(case side3 => exact cP (Kd.R_reads' HO_7.out).2.2);(case side4 => exact (Kd.R_reads' HO_7.out).2.1);rintro e w25 ⟨v234, rfl, ho0, hb⟩;have n0_ := Aside0.mk (Kd.S_elder' (by (with_reducible repeat (first | apply Kd.S_alloc | apply Kd.S_drewN | apply Kd.S_drew));exact HO_5.out) (Kd.R_base ho0) hb);have n1_ := Aside0.mk (Kd.R_elder' (by exact rP HO_7.out) (Kd.R_base ho0) hb);have n2_ := Aside0.mk (Kd.R_lower (Kd.R_new' ho0 (Kd.R_lt (by exact rP HO_7.out))) (below_size (by exact bB)));have n3_ := Aside0.mk (blk_below (g := gb218) (o := .cells #[.int .i64 a0_0, .slice A0_1 l0_1.length c0_1] 28 (0, 0)) (by exact kP BK218.out) hb);have n4_ := Aside0.mk (below_step (by exact bB) hb);clear HO_5;clear HO_7;clear BK218;clear HB;have HO_5 := n0_;have HO_7 := n1_;have HO235 := n2_;have BK218 := n3_;have HB := n4_;clear n0_ n1_ n2_ n3_ n4_;(try clear hb);(try clear hb2);(try clear hk);(try clear hi);(try clear ho0);obtain ⟨Ao26, co26, eo26⟩ := Kd.R_slice HO235.out;subst eo26;have hcz27_0 : w25.cell? ⟨gb218, 0, none⟩ = some (.int .i64 a0_0) := (blk_cell BK218.out 0).trans rfl;have hcz27_1 : w25.cell? ⟨gb218, 1, none⟩ = some (.slice A0_1 l0_1.length c0_1) := (blk_cell BK218.out 1).trans rfl;have hfz27_0 := blk_frozen BK218.out 0;have hfz27_1 := blk_frozen BK218.out 1) | (go_at_call 101;(with_reducible refine (spec_l9Open.calls k3 a0_0 _ _ l0_1 _ _ x7_2 x8_3 t236 _ ?side1 ?side2 ?side3 ?side4 A22.out).mono ?_);(case side1 => exact cP (Kd.C_below HR0_1.out HB.out));(case side2 => exact HC0_1.out);(case side3 => exact cP (Kd.R_reads' HO_7.out).2.2);(case side4 => exact (Kd.R_reads' HO_7.out).2.1);rintro e w28 ⟨v237, rfl, ho0, hb⟩;have n0_ := Aside0.mk (Kd.S_elder' (by (with_reducible repeat (first | apply Kd.S_alloc | apply Kd.S_drewN | apply Kd.S_drew));exact HO_5.out) (Kd.R_base ho0) hb);have n1_ := Aside0.mk (Kd.R_elder' (by exact rP HO_7.out) (Kd.R_base ho0) hb);have n2_ := Aside0.mk (Kd.R_elder' (by exact rP HO235.out) (Kd.R_base ho0) hb);have n3_ := Aside0.mk (Kd.R_lower (Kd.R_new' (Kd.R_new' ho0 (Kd.R_lt (by exact rP HO_7.out))) (Kd.R_lt (by exact rP HO235.out))) (below_size (by exact bB)));have n4_ := Aside0.mk (blk_below (g := gb218) (o := .cells #[.int .i64 a0_0, .slice A0_1 l0_1.length c0_1] 28 (0, 0)) (by exact kP BK218.out) hb);have n5_ := Aside0.mk (below_step (by exact bB) hb);clear HO_5;clear HO_7;clear HO235;clear BK218;clear HB;have HO_5 := n0_;have HO_7 := n1_;have HO235 := n2_;have HO238 := n3_;have BK218 := n4_;have HB := n5_;clear n0_ n1_ n2_ n3_ n4_ n5_;(try clear hb);(try clear hb2);(try clear hk);(try clear hi);(try clear ho0);obtain ⟨Ao29, co29, eo29⟩ := Kd.R_slice HO238.out;subst eo29;have p239 : 0 ≤ (0 : Int) := (by omega);have q239 : 0 < (t236.length : Int) := oA;obtain ⟨ad239, e239, hx239_0⟩ := Kd.at_int (Kd.R_reads' HO238.out).2.2 0 p239 q239;cases e239;have qi239 : (0 < t236.length) = True := eq_true (by omega);(try rw [show ((0 : Int)).toNat = 0 from rfl] at hx239_0);(try rw [Addr.add_zero'] at hx239_0);replace p239 := eq_true p239;replace q239 := eq_true q239));try go_wp2_with (first | (go_at_call 69;(with_reducible refine (spec_l1Has.calls k3 _ _ x7_2 x8_3 true _ ?side1 ?side2 A18.out).mono ?_);(case side1 => exact cP (Kd.R_reads' HO_7.out).2.2);(case side2 => exact (Kd.R_reads' HO_7.out).2.1);rintro e w' ⟨rfl, ⟨nd, rfl⟩⟩;(try first | exact ⟨rfl, _, World.drewN_drewN _ _ _⟩ | exact ⟨rfl, _, Eq.trans (World.drewN_drewN _ _ _) (congrArg (World.drewN _) (Nat.add_assoc _ _ _))⟩);have hcz24_0 : wr.cell? ⟨gb218, 0, none⟩ = some (.int .i64 a0_0) := (blk_cell BK218.out 0).trans rfl;have hcz24_1 : wr.cell? ⟨gb218, 1, none⟩ = some (.slice A0_1 l0_1.length c0_1) := (blk_cell BK218.out 1).trans rfl;have hfz24_0 := blk_frozen BK218.out 0;have hfz24_1 := blk_frozen BK218.out 1) | (go_at_call 101;(with_reducible refine (spec_l9Open.calls k3 a0_0 _ _ l0_1 _ _ x7_2 x8_3 t233 _ ?side1 ?side2 ?side3 ?side4 A20.out).mono ?_);(case side1 => exact cP (Kd.C_below HR0_1.out (by repeat (first | (with_reducible first | exact HB.out | apply below_alloc | apply pw_below_drewN | apply below_drew1 | refine below_set ?_ GE218.out) | exact HB.out))));(case side2 => exact HC0_1.out);(case side3 => exact cP (Kd.R_reads' HO_7.out).2.2);(case side4 => exact (Kd.R_reads' HO_7.out).2.1);rintro e w25 ⟨v234, rfl, ho0, hb⟩;have n0_ := Aside0.mk (Kd.S_elder' (by (with_reducible repeat (first | apply Kd.S_alloc | apply Kd.S_drewN | apply Kd.S_drew));exact HO_5.out) (Kd.R_base ho0) hb);have n1_ := Aside0.mk (Kd.R_elder' (by exact rP HO_7.out) (Kd.R_base ho0) hb);have n2_ := Aside0.mk (Kd.R_lower (Kd.R_new' ho0 (Kd.R_lt (by exact rP HO_7.out))) (below_size (by exact bB)));have n3_ := Aside0.mk (blk_below (g := gb218) (o := .cells #[.int .i64 a0_0, .slice A0_1 l0_1.length c0_1] 28 (0, 0)) (by exact kP BK218.out) hb);have n4_ := Aside0.mk (below_step (by exact bB) hb);clear HO_5;clear HO_7;clear BK218;clear HB;have HO_5 := n0_;have HO_7 := n1_;have HO235 := n2_;have BK218 := n3_;have HB := n4_;clear n0_ n1_ n2_ n3_ n4_;(try clear hb);(try clear hb2);(try clear hk);(try clear hi);(try clear ho0);obtain ⟨Ao26, co26, eo26⟩ := Kd.R_slice HO235.out;subst eo26;have hcz27_0 : w25.cell? ⟨gb218, 0, none⟩ = some (.int .i64 a0_0) := (blk_cell BK218.out 0).trans rfl;have hcz27_1 : w25.cell? ⟨gb218, 1, none⟩ = some (.slice A0_1 l0_1.length c0_1) := (blk_cell BK218.out 1).trans rfl;have hfz27_0 := blk_frozen BK218.out 0;have hfz27_1 := blk_frozen BK218.out 1) | (go_at_call 101;(with_reducible refine (spec_l9Open.calls k3 a0_0 _ _ l0_1 _ _ x7_2 x8_3 t236 _ ?side1 ?side2 ?side3 ?side4 A22.out).mono ?_);(case side1 => exact cP (Kd.C_below HR0_1.out HB.out));(case side2 => exact HC0_1.out);(case side3 => exact cP (Kd.R_reads' HO_7.out).2.2);(case side4 => exact (Kd.R_reads' HO_7.out).2.1);rintro e w28 ⟨v237, rfl, ho0, hb⟩;have n0_ := Aside0.mk (Kd.S_elder' (by (with_reducible repeat (first | apply Kd.S_alloc | apply Kd.S_drewN | apply Kd.S_drew));exact HO_5.out) (Kd.R_base ho0) hb);have n1_ := Aside0.mk (Kd.R_elder' (by exact rP HO_7.out) (Kd.R_base ho0) hb);have n2_ := Aside0.mk (Kd.R_elder' (by exact rP HO235.out) (Kd.R_base ho0) hb);have n3_ := Aside0.mk (Kd.R_lower (Kd.R_new' (Kd.R_new' ho0 (Kd.R_lt (by exact rP HO_7.out))) (Kd.R_lt (by exact rP HO235.out))) (below_size (by exact bB)));have n4_ := Aside0.mk (blk_below (g := gb218) (o := .cells #[.int .i64 a0_0, .slice A0_1 l0_1.length c0_1] 28 (0, 0)) (by exact kP BK218.out) hb);have n5_ := Aside0.mk (below_step (by exact bB) hb);clear HO_5;clear HO_7;clear HO235;clear BK218;clear HB;have HO_5 := n0_;have HO_7 := n1_;have HO235 := n2_;have HO238 := n3_;have BK218 := n4_;have HB := n5_;clear n0_ n1_ n2_ n3_ n4_ n5_;(try clear hb);(try clear hb2);(try clear hk);(try clear hi);(try clear ho0);obtain ⟨Ao29, co29, eo29⟩ := Kd.R_slice HO238.out;subst eo29;have p239 : 0 ≤ (0 : Int) := (by omega);have q239 : 0 < (t236.length : Int) := oA;obtain ⟨ad239, e239, hx239_0⟩ := Kd.at_int (Kd.R_reads' HO238.out).2.2 0 p239 q239;cases e239;have qi239 : (0 < t236.length) = True := eq_true (by omega);(try rw [show ((0 : Int)).toNat = 0 from rfl] at hx239_0);(try rw [Addr.add_zero'] at hx239_0);replace p239 := eq_true p239;replace q239 := eq_true q239)))
            go_loopg [10] k3 (fun kq v10 w' => ∃ (x5_4 : List (List Int)) (x10_4 : Int), v10 = .int .i64 x10_4 ∧ Aside0 (spec_l9Chains.l3 kq x5_4 x7_2 x8_3 (rd t236 0) x10_4 a0_0 l0_1 = some r) ∧ Aside0 (kq ≤ k3) ∧ Aside0 (Kd.S (Kd.slice 3 (Kd.int .i64)) 32 w' w.heap.size (fun k_ => some k_ ≠ ((.slice Ao16 x7_2.length co16) : Value).ownBlock) u5 x5_4) ∧ Aside0 (Kd.R (Kd.int .i64) 3 w' w.heap.size (fun _ => True) (.slice Ao16 x7_2.length co16) x7_2) ∧ Aside0 (w'.heap[gb218]? = some (.cells #[.int .i64 a0_0, (.slice A0_1 l0_1.length c0_1)] 28 (0, 0))) ∧ Aside0 (Below w.heap.size w w'))
            case atStart => exact ⟨(x5_2), (0), (by first | rfl | (simp;done) | (simp [*];done)), H', ⟨Nat.le_refl _⟩, ⟨by (with_reducible repeat (first | apply Kd.S_alloc | apply Kd.S_drewN | apply Kd.S_drew));exact Kd.S_mono HO_5.out (fun _ hk => hk.1.1)⟩, ⟨by refine rP ?_;exact Kd.R_mono HO_7.out (fun _ hk => trivial)⟩, ⟨by exact kP BK218.out⟩, ⟨by exact bB⟩⟩
            case round =>
             clear H'
             try clear c1
             try clear c2
             try clear p2
             try clear q2
             try clear hx2
             try clear qi2
             try clear c6
             try clear c6b0
             try clear p6
             try clear c7
             try clear c7b0
             try clear c8
             try clear c15
             try clear c15b0
             try clear c19
             try clear c21
             try clear c21b0
             try clear c21b1
             try clear p22
             try clear q22
             try clear hx22
             try clear c23
             try clear c23b0
             try clear c23b1
             try clear p23
             try clear q23
             try clear hx23
             try clear qi23
             try clear hcz17_0
             try clear hcz17_1
             try clear hcz24_0
             try clear hcz24_1
             try clear hcz27_0
             try clear hcz27_1
             try clear hfz17_0
             try clear hfz17_1
             try clear hfz24_0
             try clear hfz24_1
             try clear hfz27_0
             try clear hfz27_1
             try clear hx222_0
             try clear hx239_0
             try clear p2
             try clear p222
             try clear p239
             try clear p6
             try clear q2
             try clear q222
             try clear q239
             obtain ⟨x5_4, x10_4, rfl, HA, HK4, HO_5, HO_7, BK218, HB⟩ := hrel
             cases gk with
             | zero => exact absurd HA.out (by simp [spec_l9Chains.l3])
             | succ k4 =>
              have H := HA.out
              clear HA
              simp only [spec_l9Chains.l3] at H
              by_cases c30 : x10_4 < (x5_4.length : Int)
              ·rw [if_pos c30] at H
               have c30b0 : decide (x10_4 < (x5_4.length : Int)) = true := decide_eq_true c30
               clear c30
               by_cases c31 : 0 ≤ x10_4
               ·rw [if_pos c31] at H
                have c31b0 : decide (0 ≤ x10_4) = true := decide_eq_true c31
                clear c31
                obtain ⟨ji32, hji32⟩ : ∃ j_ : Int, (wrap64 (((rd_L2 x5_4 x10_4).length : Int) - 1)) = j_ := ⟨_, rfl⟩
                replace H : (if 0 ≤ (ji32) then (if (ji32) < ((rd_L2 x5_4 x10_4).length : Int) then (if (rd (rd_L2 x5_4 x10_4) (ji32)) = x8_3 then (if (rd_L2 x5_4 x10_4).length < 17592186044416 then (spec_l9Chains.l3 k4 (x5_4.set (x10_4 : Int).toNat ((rd_L2 x5_4 x10_4) ++ [(rd t236 0)])) x7_2 x8_3 (rd t236 0) (wrap64 (x10_4 + 1)) a0_0 l0_1) else (none)) else (spec_l9Chains.l3 k4 x5_4 x7_2 x8_3 (rd t236 0) (wrap64 (x10_4 + 1)) a0_0 l0_1)) else (none)) else (none)) = some r := by first | (rw [hji32] at H;exact H) | (simp only [hji32] at H ⊢;exact H)
                have hji32w : (IntKind.i64.wrap (((rd_L2 x5_4 x10_4).length : Int) - 1)) = ji32 := (i64_w _).trans hji32
                by_cases c33 : 0 ≤ (ji32)
                ·rw [if_pos c33] at H
                 have c33b0 : decide (0 ≤ (ji32)) = true := decide_eq_true c33
                 clear c33
                 by_cases c34 : (ji32) < ((rd_L2 x5_4 x10_4).length : Int)
                 ·rw [if_pos c34] at H
                  have c34b0 : decide ((ji32) < ((rd_L2 x5_4 x10_4).length : Int)) = true := decide_eq_true c34
                  clear c34
                  by_cases c35 : (rd (rd_L2 x5_4 x10_4) (ji32)) = x8_3
                  ·rw [if_pos c35] at H
                   have c35b0 : ((rd (rd_L2 x5_4 x10_4) (ji32)) == x8_3) = true := beq_iff_eq.mpr c35
                   have c35b1 : ((rd (rd_L2 x5_4 x10_4) (ji32)) != x8_3) = false := bne_eq_false_iff_eq.mpr c35
                   clear c35
                   by_cases c36 : (rd_L2 x5_4 x10_4).length < 17592186044416
                   ·rw [if_pos c36] at H
                    have LMc36 := Aside0.mk c36
                    clear c36
                    obtain ⟨y244, hy244⟩ : ∃ y_ : List Int, y_ = ((rd_L2 x5_4 x10_4) ++ [(rd t236 0)]) := ⟨_, rfl⟩
                    replace H : (spec_l9Chains.l3 k4 (x5_4.set (x10_4 : Int).toNat y244) x7_2 x8_3 (rd t236 0) (wrap64 (x10_4 + 1)) a0_0 l0_1) = some r := by first | (rw [hy244];with_reducible exact H) | (have H2_ := (Option.bind_some _ _).symm.trans H;rw [hy244];with_reducible exact H2_) | (have H2_ := (Option.bind_some _ _).symm.trans H;with_reducible exact H2_) | with_reducible exact H | (rw [hy244];exact H) | exact H
                    have Ny244 := Aside0.mk hy244
                    clear hy244
                    obtain ⟨y247, hy247⟩ : ∃ y_ : List (List Int), y_ = (x5_4.set (x10_4 : Int).toNat y244) := ⟨_, rfl⟩
                    replace H : (spec_l9Chains.l3 k4 y247 x7_2 x8_3 (rd t236 0) (wrap64 (x10_4 + 1)) a0_0 l0_1) = some r := by first | (rw [hy247];with_reducible exact H) | (have H2_ := (Option.bind_some _ _).symm.trans H;rw [hy247];with_reducible exact H2_) | (have H2_ := (Option.bind_some _ _).symm.trans H;with_reducible exact H2_) | with_reducible exact H | (rw [hy247];exact H) | exact H
                    have Ny247 := Aside0.mk hy247
                    clear hy247
                    have H' := Aside0.mk H
                    clear H
                    obtain ⟨Ao38, co38, eo38⟩ := Kd.S_slice HO_5.out
                    subst eo38
                    have p240 : 0 ≤ (x10_4 : Int) := oA
                    have q240 : x10_4 < (x5_4.length : Int) := oA
                    obtain ⟨ad240, A240_0, c240_0, e240, hx240_0, hl240_0, hi240_0⟩ := at_L2 (Kd.S_reads' HO_5.out).2.2 x10_4 p240 q240
                    cases e240
                    obtain ⟨ce240, hce240, hMe240, hcc240⟩ := Kd.S_get HO_5.out [] x10_4 p240 (by first | exact q240 | exact oA | (have e_ := (Kd.S_reads' HO_5.out).1;omega))
                    obtain ⟨ve240_0, rfl, ge240_0⟩ := hMe240
                    have hv240_0 := hcc240 0 _ rfl
                    rw [Nat.add_zero, show ((Kd.slice 3 (Kd.int .i64))).sz = 1 from rfl, Nat.mul_one] at hv240_0
                    replace hv240_0 := Option.some.inj (hv240_0.symm.trans hx240_0)
                    rw [hv240_0] at ge240_0
                    have HL240_0 := Aside0.mk (show Kd.R (Kd.int .i64) 3 _ _ _ _ (rd_L2 x5_4 x10_4) from ge240_0)
                    clear hv240_0 ge240_0
                    have HX240_0 := Aside0.mk hx240_0
                    clear hcc240 hce240
                    have HR240_0 := Aside0.mk hi240_0
                    have HC240_0 := Aside0.mk hl240_0
                    clear hi240_0 hl240_0
                    replace p240 := eq_true p240
                    replace q240 := eq_true q240
                    have p241 : 0 ≤ (x10_4 : Int) := oA
                    have q241 : x10_4 < (x5_4.length : Int) := oA
                    obtain ⟨ad241, A241_0, c241_0, e241, hx241_0, hl241_0, hi241_0⟩ := at_L2 (Kd.S_reads' HO_5.out).2.2 x10_4 p241 q241
                    obtain rfl : ad240 = ad241 := (by injection e241)
                    obtain ⟨ce241, hce241, hMe241, hcc241⟩ := Kd.S_get HO_5.out [] x10_4 p241 (by first | exact q241 | exact oA | (have e_ := (Kd.S_reads' HO_5.out).1;omega))
                    obtain ⟨ve241_0, rfl, ge241_0⟩ := hMe241
                    have hv241_0 := hcc241 0 _ rfl
                    rw [Nat.add_zero, show ((Kd.slice 3 (Kd.int .i64))).sz = 1 from rfl, Nat.mul_one] at hv241_0
                    replace hv241_0 := Option.some.inj (hv241_0.symm.trans hx241_0)
                    rw [hv241_0] at ge241_0
                    have HL241_0 := Aside0.mk (show Kd.R (Kd.int .i64) 3 _ _ _ _ (rd_L2 x5_4 x10_4) from ge241_0)
                    clear hv241_0 ge241_0
                    have HX241_0 := Aside0.mk hx241_0
                    clear hcc241 hce241
                    have HR241_0 := Aside0.mk hi241_0
                    have HC241_0 := Aside0.mk hl241_0
                    clear hi241_0 hl241_0
                    replace p241 := eq_true p241
                    replace q241 := eq_true q241
                    have ea_ := Option.some.inj (hx240_0.symm.trans hx241_0)
                    injection ea_ with ea_ en_ ec_
                    subst ea_
                    subst ec_
                    clear en_
                    have p242 : 0 ≤ ((ji32) : Int) := oA
                    have q242 : (ji32) < ((rd_L2 x5_4 x10_4).length : Int) := oA
                    obtain ⟨ad242, e242, hx242_0⟩ := Kd.at_int (by repeat (first | (with_reducible exact HR240_0.out) | (with_reducible refine Kd.C_alloc ?_ _) | (with_reducible refine Kd.C_drewN ?_ _) | (with_reducible refine Kd.C_drew ?_) | exact HR240_0.out)) (ji32) p242 q242
                    cases e242
                    replace p242 := eq_true p242
                    replace q242 := eq_true q242
                    have p243 : 0 ≤ (x10_4 : Int) := oA
                    have q243 : x10_4 < (x5_4.length : Int) := oA
                    obtain ⟨ad243, A243_0, c243_0, e243, hx243_0, hl243_0, hi243_0⟩ := at_L2 (Kd.S_reads' HO_5.out).2.2 x10_4 p243 q243
                    obtain rfl : ad240 = ad243 := (by injection e243)
                    obtain ⟨ce243, hce243, hMe243, hcc243⟩ := Kd.S_get HO_5.out [] x10_4 p243 (by first | exact q243 | exact oA | (have e_ := (Kd.S_reads' HO_5.out).1;omega))
                    obtain ⟨ve243_0, rfl, ge243_0⟩ := hMe243
                    have hv243_0 := hcc243 0 _ rfl
                    rw [Nat.add_zero, show ((Kd.slice 3 (Kd.int .i64))).sz = 1 from rfl, Nat.mul_one] at hv243_0
                    replace hv243_0 := Option.some.inj (hv243_0.symm.trans hx243_0)
                    rw [hv243_0] at ge243_0
                    have HL243_0 := Aside0.mk (show Kd.R (Kd.int .i64) 3 _ _ _ _ (rd_L2 x5_4 x10_4) from ge243_0)
                    clear hv243_0 ge243_0
                    have HX243_0 := Aside0.mk hx243_0
                    clear hcc243 hce243
                    have HR243_0 := Aside0.mk hi243_0
                    have HC243_0 := Aside0.mk hl243_0
                    clear hi243_0 hl243_0
                    replace p243 := eq_true p243
                    replace q243 := eq_true q243
                    have ea_ := Option.some.inj (hx240_0.symm.trans hx243_0)
                    injection ea_ with ea_ en_ ec_
                    subst ea_
                    subst ec_
                    clear en_
                    obtain ⟨go39, co39, eo39, gb39, gl39, cl39, HG39⟩ := Kd.S_form HO_5.out (by have h_ : (x10_4 : Int) < ((x5_4.length : Int) : Int) := oA;have h2_ : 0 ≤ (x10_4 : Int) := (oA);omega)
                    (first | cases eo39 | (injection eo39 with ea_ en_ ec_;(first | subst ea_ | (injection ea_ with ea_;subst ea_));subst ec_;clear en_))
                    have GB39 := Aside0.mk gb39
                    have GG39 := Aside0.mk HG39
                    clear gb39 gl39 HG39
                    (first | simp only [add_plain] at hx240_0 | skip)
                    (first | simp only [add_plain] at hx241_0 | skip)
                    (first | simp only [add_plain] at hx243_0 | skip)
                    obtain ⟨oki39, ce39, hcl39, hM39, hcc39, _, _, hH39⟩ := Kd.S_elem HO_5.out [] (x10_4 : Int) (oA) (by have h_ : (x10_4 : Int) < ((x5_4.length : Int) : Int) := oA;first | exact h_ | (have e_ := (Kd.S_reads' HO_5.out).1;omega) | simpa using h_)
                    obtain ⟨ve39_0, rfl, ge39_0⟩ := hM39
                    have hv39 := hcc39 0 _ rfl
                    have hX39 := HX243_0.out
                    (try simp only [add_plain] at hX39)
                    (try simp only [Nat.add_zero] at hv39)
                    (try rw [show ((Kd.slice 3 (Kd.int .i64))).sz = 1 from rfl, Nat.mul_one] at hv39)
                    replace hv39 := Option.some.inj (hv39.symm.trans hX39)
                    subst hv39
                    clear hX39 hcc39 hcl39
                    have UU39 := Aside0.mk (show Kd.R (Kd.int .i64) 3 _ w.heap.size oki39 (.slice (some ad242) (rd_L2 x5_4 x10_4).length c240_0) (rd_L2 x5_4 x10_4) from ge39_0)
                    have HH39 := Aside0.mk hH39
                    have HN39 := Aside0.mk (Kd.S_reads' HO_5.out).1
                    clear hH39 ge39_0
                    go_wp2_with (first | ((with_reducible refine gate_builtin (b := .append) (xs := #[.tmp 78, .tmp 80]) rfl ?_);(try (refine gate_guard (by rfl) ?_;dsimp only));at_builtin;refine Kd.R_append (Kd.int .i64) (w0 := w) w.heap.size rfl (.tmp 78) (.tmp 80) 32 3 (.int .i64 0) 8 rfl Tryd.underlying32 info3 rfl (by decide) (by omega) (.slice (some ad242) (rd_L2 x5_4 x10_4).length c240_0) (rd_L2 x5_4 x10_4) (rd t236 0) [.int .i64 (rd t236 0)] (fun k_ => oki39 k_ ∨ ((fun k_ => some k_ ≠ (.slice Ao16 x7_2.length co16 : Value).ownBlock)) k_ ∧ wr.heap.size ≤ k_) (fun _ => False) rfl rfl ?aP (fun _ hk => hk.elim) ?aF ?aO ?aB ?aS ?aL ?_;(case aP => exact rfl);(case aB => exact (by exact bB));(case aF => exact (fun k_ hk => .inr ⟨Kd.fresh' (Kd.R_lt (by exact rP HO_7.out)) k_ hk, hk⟩));(case aO => exact (by refine rP ?_;exact Kd.R_mono UU39.out (fun _ hk => .inl hk)));(case aS => exact (below_size (by exact bB)));(case aL => have := LMc36.out;omega);intro v245 w40 ho hb hg hat;rw [← Ny244.out] at ho;have n0_ := Aside0.mk (Kd.R_grown2 (by exact rP HO_7.out) rfl hg (fun k_ e_ => (HL243_0.out.1 k_ e_).1));have n1_ := Aside0.mk (blk_grown (g := gb218) (o := .cells #[.int .i64 a0_0, .slice A0_1 l0_1.length c0_1] 28 (0, 0)) (by exact kP BK218.out) hg (Kd.R_ne HL243_0.out BK218.out (by decide)));have n2_ := Aside0.mk (hb);have n3_ := Aside0.mk (Kd.H_grown (Kd.H_widen (by repeat (first | exact HH39.out | refine Kd.H_alloc ?_ _ | refine Kd.H_drewN ?_ _ | refine Kd.H_drew ?_))) hg (fun k_ e_ => .inl (UU39.out.1 k_ e_)));have n4_ := Aside0.mk (ho);clear HO_7;clear BK218;clear HB;clear HH39;clear HO_5;clear UU39;clear HL240_0;clear HL241_0;clear HL243_0;have HO_7 := n0_;have BK218 := n1_;have HB := n2_;have HH39 := n3_;have HO246 := n4_;clear n0_ n1_ n2_ n3_ n4_;clear ho hb hg hat;have p37 : 0 ≤ (x10_4 : Int) := oA;have q37 : (x10_4 : Int) < ((x5_4.length : Int) : Int) := oA;replace p37 := eq_true p37;replace q37 := eq_true q37;obtain ⟨Ao43, co43, eo43⟩ := Kd.R_slice HO246.out;subst eo43;obtain ⟨_, _, hraw41, _, _, hcc41, _⟩ := Kd.H_raw HH39.out (oA) (by have h_ : (x10_4 : Int) < ((x5_4.length : Int) : Int) := oA;first | exact h_ | (have e_ := (HN39.out);omega) | simpa using h_);obtain ⟨_, hfr41⟩ := Kd.H_at HH39.out (oA) (by have h_ : (x10_4 : Int) < ((x5_4.length : Int) : Int) := oA;first | exact h_ | (have e_ := (HN39.out);omega) | simpa using h_);have hx41_0 := hcc41 0 _ rfl;have hf41_0 := hfr41 0;(try simp only [Nat.add_zero] at hx41_0 hf41_0);(try rw [show ((Kd.slice 3 (Kd.int .i64))).sz = 1 from rfl, Nat.mul_one] at hx41_0);(try rw [show ((Kd.slice 3 (Kd.int .i64))).sz = 1 from rfl, Nat.mul_one] at hf41_0);have HP41 := Kd.S_seg0 HH39.out (oA) (by have h_ : (x10_4 : Int) < ((x5_4.length : Int) : Int) := oA;first | exact h_ | (have e_ := (HN39.out);omega) | simpa using h_) (seg := [.slice Ao43 y244.length co43]) (j := 0) (show 1 ≤ 1 from by decide) (x' := y244) (Kd.M_row HO246.out) (fun _ hk => hk);(try simp only [show ((Kd.slice 3 (Kd.int .i64))).sz = 1 from rfl, Nat.mul_one, Nat.add_zero] at HP41);clear hcc41 hfr41) | ((with_reducible refine gate_store (t := 32) (p := 82) rfl ?_);(try (rw [drewN_self w40];generalize hq_ : World.drewN w40 _ = w40;have n0_ := Aside0.mk (Kd.R_at hq_ HO_7.out);have n1_ := Aside0.mk (Kd.S_at hq_ HO_5.out);have n2_ := Aside0.mk (blk_at hq_ BK218.out);have n3_ := Aside0.mk (below_at hq_ HB.out);clear hq_ HO_7 HO_5 BK218 HB;have HO_7 := n0_;have HO_5 := n1_;have BK218 := n2_;have HB := n3_;clear n0_ n1_ n2_ n3_;(try (obtain ⟨Ao43, co43, eo43⟩ := Kd.R_slice HO246.out));(try (subst eo43));(try (obtain ⟨_, _, hraw41, _, _, hcc41, _⟩ := Kd.H_raw HH39.out (oA) (by have h_ : (x10_4 : Int) < ((x5_4.length : Int) : Int) := oA;first | exact h_ | (have e_ := (HN39.out);omega) | simpa using h_)));(try (obtain ⟨_, hfr41⟩ := Kd.H_at HH39.out (oA) (by have h_ : (x10_4 : Int) < ((x5_4.length : Int) : Int) := oA;first | exact h_ | (have e_ := (HN39.out);omega) | simpa using h_)));(try (have hx41_0 := hcc41 0 _ rfl));(try (have hf41_0 := hfr41 0));(try (try simp only [Nat.add_zero] at hx41_0 hf41_0));(try (try rw [show ((Kd.slice 3 (Kd.int .i64))).sz = 1 from rfl, Nat.mul_one] at hx41_0));(try (try rw [show ((Kd.slice 3 (Kd.int .i64))).sz = 1 from rfl, Nat.mul_one] at hf41_0));(try (have HP41 := Kd.S_seg0 HH39.out (oA) (by have h_ : (x10_4 : Int) < ((x5_4.length : Int) : Int) := oA;first | exact h_ | (have e_ := (HN39.out);omega) | simpa using h_) (seg := [.slice Ao43 y244.length co43]) (j := 0) (show 1 ≤ 1 from by decide) (x' := y244) (Kd.M_row HO246.out) (fun _ hk => hk)));(try (try simp only [show ((Kd.slice 3 (Kd.int .i64))).sz = 1 from rfl, Nat.mul_one, Nat.add_zero] at HP41));(try (clear hcc41 hfr41))));refine store_event (t := 32) (p := 82) (v := ?vo_w42) (w1 := (w40.setCell ⟨go39, (x10_4 : Int).toNat, none⟩ (.slice Ao43 y244.length co43))) ?hg ?ho ?hn ?hr ?_;(case ho => rfl);(case hg => rfl);(case hn => rfl);(case hr => first | (go_simp;done) | (go_simp;rfl));intro w42 hw;have hg : w40.grownBy w42 (some go39) := (by rw [hw];exact HP41.2);have hp_ : Kd.S (Kd.slice 3 (Kd.int .i64)) 32 w42 w.heap.size (fun k_ => some k_ ≠ (.slice Ao16 x7_2.length co16 : Value).ownBlock) (.slice (some ⟨go39, 0, none⟩) x5_4.length co38) y247 := (by rw [hw, Ny247.out];exact HP41.1);clear HP41;have n0_ := Aside0.mk (Kd.R_over' (v := (.slice (some ⟨go39, 0, none⟩) x5_4.length co38)) (by exact rP HO_7.out) (Kd.R_typed hraw41) (by decide) hg);have n1_ := Aside0.mk (blk_grown (g := gb218) (o := .cells #[.int .i64 a0_0, .slice A0_1 l0_1.length c0_1] 28 (0, 0)) (by exact kP BK218.out) hg (Kd.R_ne hraw41 BK218.out (by decide)));have n2_ := Aside0.mk ((by rw [hw];exact below_set HB.out GB39.out : Below w.heap.size w w42));have n3_ := Aside0.mk (hp_);clear HO_7;clear BK218;clear HB;clear HO246;clear HH39;have HO_7 := n0_;have BK218 := n1_;have HB := n2_;have HO_5 := n3_;clear n0_ n1_ n2_ n3_;clear hg hw hp_ hraw41))
                    repeat (go_quiet (first | ((with_reducible refine gate_builtin (b := .append) (xs := #[.tmp 78, .tmp 80]) rfl ?_);(try (refine gate_guard (by rfl) ?_;dsimp only));at_builtin;refine Kd.R_append (Kd.int .i64) (w0 := w) w.heap.size rfl (.tmp 78) (.tmp 80) 32 3 (.int .i64 0) 8 rfl Tryd.underlying32 info3 rfl (by decide) (by omega) (.slice (some ad242) (rd_L2 x5_4 x10_4).length c240_0) (rd_L2 x5_4 x10_4) (rd t236 0) [.int .i64 (rd t236 0)] (fun k_ => oki39 k_ ∨ ((fun k_ => some k_ ≠ (.slice Ao16 x7_2.length co16 : Value).ownBlock)) k_ ∧ wr.heap.size ≤ k_) (fun _ => False) rfl rfl ?aP (fun _ hk => hk.elim) ?aF ?aO ?aB ?aS ?aL ?_;(case aP => exact rfl);(case aB => exact (by exact bB));(case aF => exact (fun k_ hk => .inr ⟨Kd.fresh' (Kd.R_lt (by exact rP HO_7.out)) k_ hk, hk⟩));(case aO => exact (by refine rP ?_;exact Kd.R_mono UU39.out (fun _ hk => .inl hk)));(case aS => exact (below_size (by exact bB)));(case aL => have := LMc36.out;omega);intro v245 w40 ho hb hg hat;rw [← Ny244.out] at ho;have n0_ := Aside0.mk (Kd.R_grown2 (by exact rP HO_7.out) rfl hg (fun k_ e_ => (HL243_0.out.1 k_ e_).1));have n1_ := Aside0.mk (blk_grown (g := gb218) (o := .cells #[.int .i64 a0_0, .slice A0_1 l0_1.length c0_1] 28 (0, 0)) (by exact kP BK218.out) hg (Kd.R_ne HL243_0.out BK218.out (by decide)));have n2_ := Aside0.mk (hb);have n3_ := Aside0.mk (Kd.H_grown (Kd.H_widen (by repeat (first | exact HH39.out | refine Kd.H_alloc ?_ _ | refine Kd.H_drewN ?_ _ | refine Kd.H_drew ?_))) hg (fun k_ e_ => .inl (UU39.out.1 k_ e_)));have n4_ := Aside0.mk (ho);clear HO_7;clear BK218;clear HB;clear HH39;clear HO_5;clear UU39;clear HL240_0;clear HL241_0;clear HL243_0;have HO_7 := n0_;have BK218 := n1_;have HB := n2_;have HH39 := n3_;have HO246 := n4_;clear n0_ n1_ n2_ n3_ n4_;clear ho hb hg hat;have p37 : 0 ≤ (x10_4 : Int) := oA;have q37 : (x10_4 : Int) < ((x5_4.length : Int) : Int) := oA;replace p37 := eq_true p37;replace q37 := eq_true q37;obtain ⟨Ao43, co43, eo43⟩ := Kd.R_slice HO246.out;subst eo43;obtain ⟨_, _, hraw41, _, _, hcc41, _⟩ := Kd.H_raw HH39.out (oA) (by have h_ : (x10_4 : Int) < ((x5_4.length : Int) : Int) := oA;first | exact h_ | (have e_ := (HN39.out);omega) | simpa using h_);obtain ⟨_, hfr41⟩ := Kd.H_at HH39.out (oA) (by have h_ : (x10_4 : Int) < ((x5_4.length : Int) : Int) := oA;first | exact h_ | (have e_ := (HN39.out);omega) | simpa using h_);have hx41_0 := hcc41 0 _ rfl;have hf41_0 := hfr41 0;(try simp only [Nat.add_zero] at hx41_0 hf41_0);(try rw [show ((Kd.slice 3 (Kd.int .i64))).sz = 1 from rfl, Nat.mul_one] at hx41_0);(try rw [show ((Kd.slice 3 (Kd.int .i64))).sz = 1 from rfl, Nat.mul_one] at hf41_0);have HP41 := Kd.S_seg0 HH39.out (oA) (by have h_ : (x10_4 : Int) < ((x5_4.length : Int) : Int) := oA;first | exact h_ | (have e_ := (HN39.out);omega) | simpa using h_) (seg := [.slice Ao43 y244.length co43]) (j := 0) (show 1 ≤ 1 from by decide) (x' := y244) (Kd.M_row HO246.out) (fun _ hk => hk);(try simp only [show ((Kd.slice 3 (Kd.int .i64))).sz = 1 from rfl, Nat.mul_one, Nat.add_zero] at HP41);clear hcc41 hfr41) | ((with_reducible refine gate_store (t := 32) (p := 82) rfl ?_);(try (rw [drewN_self w40];generalize hq_ : World.drewN w40 _ = w40;have n0_ := Aside0.mk (Kd.R_at hq_ HO_7.out);have n1_ := Aside0.mk (Kd.S_at hq_ HO_5.out);have n2_ := Aside0.mk (blk_at hq_ BK218.out);have n3_ := Aside0.mk (below_at hq_ HB.out);clear hq_ HO_7 HO_5 BK218 HB;have HO_7 := n0_;have HO_5 := n1_;have BK218 := n2_;have HB := n3_;clear n0_ n1_ n2_ n3_;(try (obtain ⟨Ao43, co43, eo43⟩ := Kd.R_slice HO246.out));(try (subst eo43));(try (obtain ⟨_, _, hraw41, _, _, hcc41, _⟩ := Kd.H_raw HH39.out (oA) (by have h_ : (x10_4 : Int) < ((x5_4.length : Int) : Int) := oA;first | exact h_ | (have e_ := (HN39.out);omega) | simpa using h_)));(try (obtain ⟨_, hfr41⟩ := Kd.H_at HH39.out (oA) (by have h_ : (x10_4 : Int) < ((x5_4.length : Int) : Int) := oA;first | exact h_ | (have e_ := (HN39.out);omega) | simpa using h_)));(try (have hx41_0 := hcc41 0 _ rfl));(try (have hf41_0 := hfr41 0));(try (try simp only [Nat.add_zero] at hx41_0 hf41_0));(try (try rw [show ((Kd.slice 3 (Kd.int .i64))).sz = 1 from rfl, Nat.mul_one] at hx41_0));(try (try rw [show ((Kd.slice 3 (Kd.int .i64))).sz = 1 from rfl, Nat.mul_one] at hf41_0));(try (have HP41 := Kd.S_seg0 HH39.out (oA) (by have h_ : (x10_4 : Int) < ((x5_4.length : Int) : Int) := oA;first | exact h_ | (have e_ := (HN39.out);omega) | simpa using h_) (seg := [.slice Ao43 y244.length co43]) (j := 0) (show 1 ≤ 1 from by decide) (x' := y244) (Kd.M_row HO246.out) (fun _ hk => hk)));(try (try simp only [show ((Kd.slice 3 (Kd.int .i64))).sz = 1 from rfl, Nat.mul_one, Nat.add_zero] at HP41));(try (clear hcc41 hfr41))));refine store_event (t := 32) (p := 82) (v := ?vo_w42) (w1 := (w40.setCell ⟨go39, (x10_4 : Int).toNat, none⟩ (.slice Ao43 y244.length co43))) ?hg ?ho ?hn ?hr ?_;(case ho => rfl);(case hg => rfl);(case hn => rfl);(case hr => first | (go_simp;done) | (go_simp;rfl));intro w42 hw;have hg : w40.grownBy w42 (some go39) := (by rw [hw];exact HP41.2);have hp_ : Kd.S (Kd.slice 3 (Kd.int .i64)) 32 w42 w.heap.size (fun k_ => some k_ ≠ (.slice Ao16 x7_2.length co16 : Value).ownBlock) (.slice (some ⟨go39, 0, none⟩) x5_4.length co38) y247 := (by rw [hw, Ny247.out];exact HP41.1);clear HP41;have n0_ := Aside0.mk (Kd.R_over' (v := (.slice (some ⟨go39, 0, none⟩) x5_4.length co38)) (by exact rP HO_7.out) (Kd.R_typed hraw41) (by decide) hg);have n1_ := Aside0.mk (blk_grown (g := gb218) (o := .cells #[.int .i64 a0_0, .slice A0_1 l0_1.length c0_1] 28 (0, 0)) (by exact kP BK218.out) hg (Kd.R_ne hraw41 BK218.out (by decide)));have n2_ := Aside0.mk ((by rw [hw];exact below_set HB.out GB39.out : Below w.heap.size w w42));have n3_ := Aside0.mk (hp_);clear HO_7;clear BK218;clear HB;clear HO246;clear HH39;have HO_7 := n0_;have BK218 := n1_;have HB := n2_;have HO_5 := n3_;clear n0_ n1_ n2_ n3_;clear hg hw hp_ hraw41));try go_wp2_with (first | ((with_reducible refine gate_builtin (b := .append) (xs := #[.tmp 78, .tmp 80]) rfl ?_);(try (refine gate_guard (by rfl) ?_;dsimp only));at_builtin;refine Kd.R_append (Kd.int .i64) (w0 := w) w.heap.size rfl (.tmp 78) (.tmp 80) 32 3 (.int .i64 0) 8 rfl Tryd.underlying32 info3 rfl (by decide) (by omega) (.slice (some ad242) (rd_L2 x5_4 x10_4).length c240_0) (rd_L2 x5_4 x10_4) (rd t236 0) [.int .i64 (rd t236 0)] (fun k_ => oki39 k_ ∨ ((fun k_ => some k_ ≠ (.slice Ao16 x7_2.length co16 : Value).ownBlock)) k_ ∧ wr.heap.size ≤ k_) (fun _ => False) rfl rfl ?aP (fun _ hk => hk.elim) ?aF ?aO ?aB ?aS ?aL ?_;(case aP => exact rfl);(case aB => exact (by exact bB));(case aF => exact (fun k_ hk => .inr ⟨Kd.fresh' (Kd.R_lt (by exact rP HO_7.out)) k_ hk, hk⟩));(case aO => exact (by refine rP ?_;exact Kd.R_mono UU39.out (fun _ hk => .inl hk)));(case aS => exact (below_size (by exact bB)));(case aL => have := LMc36.out;omega);intro v245 w40 ho hb hg hat;rw [← Ny244.out] at ho;have n0_ := Aside0.mk (Kd.R_grown2 (by exact rP HO_7.out) rfl hg (fun k_ e_ => (HL243_0.out.1 k_ e_).1));have n1_ := Aside0.mk (blk_grown (g := gb218) (o := .cells #[.int .i64 a0_0, .slice A0_1 l0_1.length c0_1] 28 (0, 0)) (by exact kP BK218.out) hg (Kd.R_ne HL243_0.out BK218.out (by decide)));have n2_ := Aside0.mk (hb);have n3_ := Aside0.mk (Kd.H_grown (Kd.H_widen (by repeat (first | exact HH39.out | refine Kd.H_alloc ?_ _ | refine Kd.H_drewN ?_ _ | refine Kd.H_drew ?_))) hg (fun k_ e_ => .inl (UU39.out.1 k_ e_)));have n4_ := Aside0.mk (ho);clear HO_7;clear BK218;clear HB;clear HH39;clear HO_5;clear UU39;clear HL240_0;clear HL241_0;clear HL243_0;have HO_7 := n0_;have BK218 := n1_;have HB := n2_;have HH39 := n3_;have HO246 := n4_;clear n0_ n1_ n2_ n3_ n4_;clear ho hb hg hat;have p37 : 0 ≤ (x10_4 : Int) := oA;have q37 : (x10_4 : Int) < ((x5_4.length : Int) : Int) := oA;replace p37 := eq_true p37;replace q37 := eq_true q37;obtain ⟨Ao43, co43, eo43⟩ := Kd.R_slice HO246.out;subst eo43;obtain ⟨_, _, hraw41, _, _, hcc41, _⟩ := Kd.H_raw HH39.out (oA) (by have h_ : (x10_4 : Int) < ((x5_4.length : Int) : Int) := oA;first | exact h_ | (have e_ := (HN39.out);omega) | simpa using h_);obtain ⟨_, hfr41⟩ := Kd.H_at HH39.out (oA) (by have h_ : (x10_4 : Int) < ((x5_4.length : Int) : Int) := oA;first | exact h_ | (have e_ := (HN39.out);omega) | simpa using h_);have hx41_0 := hcc41 0 _ rfl;have hf41_0 := hfr41 0;(try simp only [Nat.add_zero] at hx41_0 hf41_0);(try rw [show ((Kd.slice 3 (Kd.int .i64))).sz = 1 from rfl, Nat.mul_one] at hx41_0);(try rw [show ((Kd.slice 3 (Kd.int .i64))).sz = 1 from rfl, Nat.mul_one] at hf41_0);have HP41 := Kd.S_seg0 HH39.out (oA) (by have h_ : (x10_4 : Int) < ((x5_4.length : Int) : Int) := oA;first | exact h_ | (have e_ := (HN39.out);omega) | simpa using h_) (seg := [.slice Ao43 y244.length co43]) (j := 0) (show 1 ≤ 1 from by decide) (x' := y244) (Kd.M_row HO246.out) (fun _ hk => hk);(try simp only [show ((Kd.slice 3 (Kd.int .i64))).sz = 1 from rfl, Nat.mul_one, Nat.add_zero] at HP41);clear hcc41 hfr41) | ((with_reducible refine gate_store (t := 32) (p := 82) rfl ?_);(try (rw [drewN_self w40];generalize hq_ : World.drewN w40 _ = w40;have n0_ := Aside0.mk (Kd.R_at hq_ HO_7.out);have n1_ := Aside0.mk (Kd.S_at hq_ HO_5.out);have n2_ := Aside0.mk (blk_at hq_ BK218.out);have n3_ := Aside0.mk (below_at hq_ HB.out);clear hq_ HO_7 HO_5 BK218 HB;have HO_7 := n0_;have HO_5 := n1_;have BK218 := n2_;have HB := n3_;clear n0_ n1_ n2_ n3_;(try (obtain ⟨Ao43, co43, eo43⟩ := Kd.R_slice HO246.out));(try (subst eo43));(try (obtain ⟨_, _, hraw41, _, _, hcc41, _⟩ := Kd.H_raw HH39.out (oA) (by have h_ : (x10_4 : Int) < ((x5_4.length : Int) : Int) := oA;first | exact h_ | (have e_ := (HN39.out);omega) | simpa using h_)));(try (obtain ⟨_, hfr41⟩ := Kd.H_at HH39.out (oA) (by have h_ : (x10_4 : Int) < ((x5_4.length : Int) : Int) := oA;first | exact h_ | (have e_ := (HN39.out);omega) | simpa using h_)));(try (have hx41_0 := hcc41 0 _ rfl));(try (have hf41_0 := hfr41 0));(try (try simp only [Nat.add_zero] at hx41_0 hf41_0));(try (try rw [show ((Kd.slice 3 (Kd.int .i64))).sz = 1 from rfl, Nat.mul_one] at hx41_0));(try (try rw [show ((Kd.slice 3 (Kd.int .i64))).sz = 1 from rfl, Nat.mul_one] at hf41_0));(try (have HP41 := Kd.S_seg0 HH39.out (oA) (by have h_ : (x10_4 : Int) < ((x5_4.length : Int) : Int) := oA;first | exact h_ | (have e_ := (HN39.out);omega) | simpa using h_) (seg := [.slice Ao43 y244.length co43]) (j := 0) (show 1 ≤ 1 from by decide) (x' := y244) (Kd.M_row HO246.out) (fun _ hk => hk)));(try (try simp only [show ((Kd.slice 3 (Kd.int .i64))).sz = 1 from rfl, Nat.mul_one, Nat.add_zero] at HP41));(try (clear hcc41 hfr41))));refine store_event (t := 32) (p := 82) (v := ?vo_w42) (w1 := (w40.setCell ⟨go39, (x10_4 : Int).toNat, none⟩ (.slice Ao43 y244.length co43))) ?hg ?ho ?hn ?hr ?_;(case ho => rfl);(case hg => rfl);(case hn => rfl);(case hr => first | (go_simp;done) | (go_simp;rfl));intro w42 hw;have hg : w40.grownBy w42 (some go39) := (by rw [hw];exact HP41.2);have hp_ : Kd.S (Kd.slice 3 (Kd.int .i64)) 32 w42 w.heap.size (fun k_ => some k_ ≠ (.slice Ao16 x7_2.length co16 : Value).ownBlock) (.slice (some ⟨go39, 0, none⟩) x5_4.length co38) y247 := (by rw [hw, Ny247.out];exact HP41.1);clear HP41;have n0_ := Aside0.mk (Kd.R_over' (v := (.slice (some ⟨go39, 0, none⟩) x5_4.length co38)) (by exact rP HO_7.out) (Kd.R_typed hraw41) (by decide) hg);have n1_ := Aside0.mk (blk_grown (g := gb218) (o := .cells #[.int .i64 a0_0, .slice A0_1 l0_1.length c0_1] 28 (0, 0)) (by exact kP BK218.out) hg (Kd.R_ne hraw41 BK218.out (by decide)));have n2_ := Aside0.mk ((by rw [hw];exact below_set HB.out GB39.out : Below w.heap.size w w42));have n3_ := Aside0.mk (hp_);clear HO_7;clear BK218;clear HB;clear HO246;clear HH39;have HO_7 := n0_;have BK218 := n1_;have HB := n2_;have HO_5 := n3_;clear n0_ n1_ n2_ n3_;clear hg hw hp_ hraw41)))
                    go_roundg k4
                    case measure => have := HK1.out;have := HK2.out;have := HK3.out;have := HK4.out;omega
                    case rel => exact ⟨(y247), (wrap64 (x10_4 + 1)), (by first | rfl | (simp;done) | (simp [*];done)), H', ⟨by have := HK1.out;have := HK2.out;have := HK3.out;have := HK4.out;omega⟩, ⟨by (with_reducible repeat (first | apply Kd.S_alloc | apply Kd.S_drewN | apply Kd.S_drew));exact HO_5.out⟩, ⟨by exact rP HO_7.out⟩, ⟨by exact kP BK218.out⟩, ⟨by exact bB⟩⟩
                   ·rw [if_neg c36] at H
                    exact absurd H (by simp)
                  ·rw [if_neg c35] at H
                   have c35b0 : ((rd (rd_L2 x5_4 x10_4) (ji32)) == x8_3) = false := beq_eq_false_iff_ne.mpr c35
                   have c35b1 : ((rd (rd_L2 x5_4 x10_4) (ji32)) != x8_3) = true := bne_iff_ne.mpr c35
                   have H' := Aside0.mk H
                   clear H
                   obtain ⟨Ao44, co44, eo44⟩ := Kd.S_slice HO_5.out
                   subst eo44
                   have p240 : 0 ≤ (x10_4 : Int) := oA
                   have q240 : x10_4 < (x5_4.length : Int) := oA
                   obtain ⟨ad240, A240_0, c240_0, e240, hx240_0, hl240_0, hi240_0⟩ := at_L2 (Kd.S_reads' HO_5.out).2.2 x10_4 p240 q240
                   cases e240
                   obtain ⟨ce240, hce240, hMe240, hcc240⟩ := Kd.S_get HO_5.out [] x10_4 p240 (by first | exact q240 | exact oA | (have e_ := (Kd.S_reads' HO_5.out).1;omega))
                   obtain ⟨ve240_0, rfl, ge240_0⟩ := hMe240
                   have hv240_0 := hcc240 0 _ rfl
                   rw [Nat.add_zero, show ((Kd.slice 3 (Kd.int .i64))).sz = 1 from rfl, Nat.mul_one] at hv240_0
                   replace hv240_0 := Option.some.inj (hv240_0.symm.trans hx240_0)
                   rw [hv240_0] at ge240_0
                   have HL240_0 := Aside0.mk (show Kd.R (Kd.int .i64) 3 _ _ _ _ (rd_L2 x5_4 x10_4) from ge240_0)
                   clear hv240_0 ge240_0
                   have HX240_0 := Aside0.mk hx240_0
                   clear hcc240 hce240
                   have HR240_0 := Aside0.mk hi240_0
                   have HC240_0 := Aside0.mk hl240_0
                   clear hi240_0 hl240_0
                   replace p240 := eq_true p240
                   replace q240 := eq_true q240
                   have p241 : 0 ≤ (x10_4 : Int) := oA
                   have q241 : x10_4 < (x5_4.length : Int) := oA
                   obtain ⟨ad241, A241_0, c241_0, e241, hx241_0, hl241_0, hi241_0⟩ := at_L2 (Kd.S_reads' HO_5.out).2.2 x10_4 p241 q241
                   obtain rfl : ad240 = ad241 := (by injection e241)
                   obtain ⟨ce241, hce241, hMe241, hcc241⟩ := Kd.S_get HO_5.out [] x10_4 p241 (by first | exact q241 | exact oA | (have e_ := (Kd.S_reads' HO_5.out).1;omega))
                   obtain ⟨ve241_0, rfl, ge241_0⟩ := hMe241
                   have hv241_0 := hcc241 0 _ rfl
                   rw [Nat.add_zero, show ((Kd.slice 3 (Kd.int .i64))).sz = 1 from rfl, Nat.mul_one] at hv241_0
                   replace hv241_0 := Option.some.inj (hv241_0.symm.trans hx241_0)
                   rw [hv241_0] at ge241_0
                   have HL241_0 := Aside0.mk (show Kd.R (Kd.int .i64) 3 _ _ _ _ (rd_L2 x5_4 x10_4) from ge241_0)
                   clear hv241_0 ge241_0
                   have HX241_0 := Aside0.mk hx241_0
                   clear hcc241 hce241
                   have HR241_0 := Aside0.mk hi241_0
                   have HC241_0 := Aside0.mk hl241_0
                   clear hi241_0 hl241_0
                   replace p241 := eq_true p241
                   replace q241 := eq_true q241
                   have ea_ := Option.some.inj (hx240_0.symm.trans hx241_0)
                   injection ea_ with ea_ en_ ec_
                   subst ea_
                   subst ec_
                   clear en_
                   have p242 : 0 ≤ ((ji32) : Int) := oA
                   have q242 : (ji32) < ((rd_L2 x5_4 x10_4).length : Int) := oA
                   obtain ⟨ad242, e242, hx242_0⟩ := Kd.at_int (by repeat (first | (with_reducible exact HR240_0.out) | (with_reducible refine Kd.C_alloc ?_ _) | (with_reducible refine Kd.C_drewN ?_ _) | (with_reducible refine Kd.C_drew ?_) | exact HR240_0.out)) (ji32) p242 q242
                   cases e242
                   replace p242 := eq_true p242
                   replace q242 := eq_true q242
                   go_wp2
                   repeat (go_quiet (fail);try go_wp2)
                   go_roundg k4
                   case measure => have := HK1.out;have := HK2.out;have := HK3.out;have := HK4.out;omega
                   case rel => exact ⟨(x5_4), (wrap64 (x10_4 + 1)), (by first | rfl | (simp;done) | (simp [*];done)), H', ⟨by have := HK1.out;have := HK2.out;have := HK3.out;have := HK4.out;omega⟩, ⟨by (with_reducible repeat (first | apply Kd.S_alloc | apply Kd.S_drewN | apply Kd.S_drew));exact HO_5.out⟩, ⟨by exact rP HO_7.out⟩, ⟨by exact kP BK218.out⟩, ⟨by exact bB⟩⟩
                 ·rw [if_neg c34] at H
                  exact absurd H (by simp)
                ·rw [if_neg c33] at H
                 exact absurd H (by simp)
               ·rw [if_neg c31] at H
                exact absurd H (by simp)
              ·rw [if_neg c30] at H
               have c30b0 : decide (x10_4 < (x5_4.length : Int)) = false := decide_eq_false c30
               clear c30
               replace H := Option.bind_eq_some_iff.mp H
               obtain ⟨t248, A450, H⟩ := H
               replace H : (spec_l9Chains.l1 k4 x5_4 t248 a0_0 l0_1) = some r := H
               have A45 := Aside0.mk A450
               clear A450
               have H' := Aside0.mk H
               clear H
               obtain ⟨Ao46, co46, eo46⟩ := Kd.S_slice HO_5.out
               subst eo46
               go_wp2_with (first | (go_at_call 61;(with_reducible refine (spec_l1Put.calls (fun k_ => some k_ = (.slice Ao16 x7_2.length co16 : Value).ownBlock) (.slice Ao16 x7_2.length co16) x7_2 (rd t236 0) t248 w _ ?side1 ?side2 A45.out).mono ?_);(case side1 => exact bB);(case side2 => exact Kd.R_tight rfl HO_7.out);rintro e w47 ⟨v249, rfl, ho0, hb, hkp⟩;have n0_ := Aside0.mk (Kd.S_mono (ok' := fun k_ => some k_ ≠ (v249 : Value).ownBlock) (Kd.S_keptB (HO_5.out) hkp (fun k_ hk_ hs_ => (hk_) hs_)) (fun k_ hk_ => fun e_ => Or.elim (ho0.1 k_ e_.symm) (fun hs_ => hk_.2.1 hs_) (fun hn_ => Nat.not_le.2 hk_.2.2 hn_)));have n1_ := Aside0.mk (blk_kept (by exact kP BK218.out) hkp (fun hs_ => (fun e_ => (Kd.R_ne HO_7.out BK218.out (by decide)) e_) hs_));have n2_ := Aside0.mk (Kd.R_mono (ok' := fun k_ => True) ho0 (fun k_ hk_ => trivial));have n3_ := Aside0.mk (hb);clear HO_5;clear BK218;clear HB;clear HO_7;have HO_5 := n0_;have BK218 := n1_;have HO250 := n2_;have HB := n3_;clear n0_ n1_ n2_ n3_;(try clear hb);(try clear hkp);(try clear ho0)))
               repeat (go_quiet (first | (go_at_call 61;(with_reducible refine (spec_l1Put.calls (fun k_ => some k_ = (.slice Ao16 x7_2.length co16 : Value).ownBlock) (.slice Ao16 x7_2.length co16) x7_2 (rd t236 0) t248 w _ ?side1 ?side2 A45.out).mono ?_);(case side1 => exact bB);(case side2 => exact Kd.R_tight rfl HO_7.out);rintro e w47 ⟨v249, rfl, ho0, hb, hkp⟩;have n0_ := Aside0.mk (Kd.S_mono (ok' := fun k_ => some k_ ≠ (v249 : Value).ownBlock) (Kd.S_keptB (HO_5.out) hkp (fun k_ hk_ hs_ => (hk_) hs_)) (fun k_ hk_ => fun e_ => Or.elim (ho0.1 k_ e_.symm) (fun hs_ => hk_.2.1 hs_) (fun hn_ => Nat.not_le.2 hk_.2.2 hn_)));have n1_ := Aside0.mk (blk_kept (by exact kP BK218.out) hkp (fun hs_ => (fun e_ => (Kd.R_ne HO_7.out BK218.out (by decide)) e_) hs_));have n2_ := Aside0.mk (Kd.R_mono (ok' := fun k_ => True) ho0 (fun k_ hk_ => trivial));have n3_ := Aside0.mk (hb);clear HO_5;clear BK218;clear HB;clear HO_7;have HO_5 := n0_;have BK218 := n1_;have HO250 := n2_;have HB := n3_;clear n0_ n1_ n2_ n3_;(try clear hb);(try clear hkp);(try clear ho0)));try go_wp2_with (first | (go_at_call 61;(with_reducible refine (spec_l1Put.calls (fun k_ => some k_ = (.slice Ao16 x7_2.length co16 : Value).ownBlock) (.slice Ao16 x7_2.length co16) x7_2 (rd t236 0) t248 w _ ?side1 ?side2 A45.out).mono ?_);(case side1 => exact bB);(case side2 => exact Kd.R_tight rfl HO_7.out);rintro e w47 ⟨v249, rfl, ho0, hb, hkp⟩;have n0_ := Aside0.mk (Kd.S_mono (ok' := fun k_ => some k_ ≠ (v249 : Value).ownBlock) (Kd.S_keptB (HO_5.out) hkp (fun k_ hk_ hs_ => (hk_) hs_)) (fun k_ hk_ => fun e_ => Or.elim (ho0.1 k_ e_.symm) (fun hs_ => hk_.2.1 hs_) (fun hn_ => Nat.not_le.2 hk_.2.2 hn_)));have n1_ := Aside0.mk (blk_kept (by exact kP BK218.out) hkp (fun hs_ => (fun e_ => (Kd.R_ne HO_7.out BK218.out (by decide)) e_) hs_));have n2_ := Aside0.mk (Kd.R_mono (ok' := fun k_ => True) ho0 (fun k_ hk_ => trivial));have n3_ := Aside0.mk (hb);clear HO_5;clear BK218;clear HB;clear HO_7;have HO_5 := n0_;have BK218 := n1_;have HO250 := n2_;have HB := n3_;clear n0_ n1_ n2_ n3_;(try clear hb);(try clear hkp);(try clear ho0))))
               go_roundg k4
               case measure => have := HK1.out;have := HK2.out;have := HK3.out;have := HK4.out;omega
               case rel => exact ⟨(x5_4), (t248), H', ⟨by have := HK1.out;have := HK2.out;have := HK3.out;have := HK4.out;omega⟩, ⟨by (with_reducible repeat (first | apply Kd.S_alloc | apply Kd.S_drewN | apply Kd.S_drew));exact HO_5.out⟩, ⟨by exact rP HO250.out⟩, ⟨by exact kP BK218.out⟩, ⟨by exact bB⟩⟩
           ·rw [if_neg c23] at H
            exact absurd H (by simp)
          ·rw [if_neg c21] at H
           have c21b0 : ((t233.length : Int) == 1) = false := beq_eq_false_iff_ne.mpr c21
           have c21b1 : ((t233.length : Int) != 1) = true := bne_iff_ne.mpr c21
           have H' := Aside0.mk H
           clear H
           go_wp2_with (first | (go_at_call 69;(with_reducible refine (spec_l1Has.calls k3 _ _ x7_2 x8_3 true _ ?side1 ?side2 A18.out).mono ?_);(case side1 => exact cP (Kd.R_reads' HO_7.out).2.2);(case side2 => exact (Kd.R_reads' HO_7.out).2.1);rintro e w' ⟨rfl, ⟨nd, rfl⟩⟩;(try first | exact ⟨rfl, _, World.drewN_drewN _ _ _⟩ | exact ⟨rfl, _, Eq.trans (World.drewN_drewN _ _ _) (congrArg (World.drewN _) (Nat.add_assoc _ _ _))⟩);have hcz48_0 : wr.cell? ⟨gb218, 0, none⟩ = some (.int .i64 a0_0) := (blk_cell BK218.out 0).trans rfl;have hcz48_1 : wr.cell? ⟨gb218, 1, none⟩ = some (.slice A0_1 l0_1.length c0_1) := (blk_cell BK218.out 1).trans rfl;have hfz48_0 := blk_frozen BK218.out 0;have hfz48_1 := blk_frozen BK218.out 1) | (go_at_call 101;(with_reducible refine (spec_l9Open.calls k3 a0_0 _ _ l0_1 _ _ x7_2 x8_3 t233 _ ?side1 ?side2 ?side3 ?side4 A20.out).mono ?_);(case side1 => exact cP (Kd.C_below HR0_1.out (by repeat (first | (with_reducible first | exact HB.out | apply below_alloc | apply pw_below_drewN | apply below_drew1 | refine below_set ?_ GE218.out) | exact HB.out))));(case side2 => exact HC0_1.out);(case side3 => exact cP (Kd.R_reads' HO_7.out).2.2);(case side4 => exact (Kd.R_reads' HO_7.out).2.1);rintro e w49 ⟨v234, rfl, ho0, hb⟩;have n0_ := Aside0.mk (Kd.S_elder' (by (with_reducible repeat (first | apply Kd.S_alloc | apply Kd.S_drewN | apply Kd.S_drew));exact HO_5.out) (Kd.R_base ho0) hb);have n1_ := Aside0.mk (Kd.R_elder' (by exact rP HO_7.out) (Kd.R_base ho0) hb);have n2_ := Aside0.mk (Kd.R_lower (Kd.R_new' ho0 (Kd.R_lt (by exact rP HO_7.out))) (below_size (by exact bB)));have n3_ := Aside0.mk (blk_below (g := gb218) (o := .cells #[.int .i64 a0_0, .slice A0_1 l0_1.length c0_1] 28 (0, 0)) (by exact kP BK218.out) hb);have n4_ := Aside0.mk (below_step (by exact bB) hb);clear HO_5;clear HO_7;clear BK218;clear HB;have HO_5 := n0_;have HO_7 := n1_;have HO235 := n2_;have BK218 := n3_;have HB := n4_;clear n0_ n1_ n2_ n3_ n4_;(try clear hb);(try clear hb2);(try clear hk);(try clear hi);(try clear ho0);obtain ⟨Ao50, co50, eo50⟩ := Kd.R_slice HO235.out;subst eo50))
           repeat (go_quiet (first | (go_at_call 69;(with_reducible refine (spec_l1Has.calls k3 _ _ x7_2 x8_3 true _ ?side1 ?side2 A18.out).mono ?_);(case side1 => exact cP (Kd.R_reads' HO_7.out).2.2);(case side2 => exact (Kd.R_reads' HO_7.out).2.1);rintro e w' ⟨rfl, ⟨nd, rfl⟩⟩;(try first | exact ⟨rfl, _, World.drewN_drewN _ _ _⟩ | exact ⟨rfl, _, Eq.trans (World.drewN_drewN _ _ _) (congrArg (World.drewN _) (Nat.add_assoc _ _ _))⟩);have hcz48_0 : wr.cell? ⟨gb218, 0, none⟩ = some (.int .i64 a0_0) := (blk_cell BK218.out 0).trans rfl;have hcz48_1 : wr.cell? ⟨gb218, 1, none⟩ = some (.slice A0_1 l0_1.length c0_1) := (blk_cell BK218.out 1).trans rfl;have hfz48_0 := blk_frozen BK218.out 0;have hfz48_1 := blk_frozen BK218.out 1) | (go_at_call 101;(with_reducible refine (spec_l9Open.calls k3 a0_0 _ _ l0_1 _ _ x7_2 x8_3 t233 _ ?side1 ?side2 ?side3 ?side4 A20.out).mono ?_);(case side1 => exact cP (Kd.C_below HR0_1.out (by repeat (first | (with_reducible first | exact HB.out | apply below_alloc | apply pw_below_drewN | apply below_drew1 | refine below_set ?_ GE218.out) | exact HB.out))));(case side2 => exact HC0_1.out);(case side3 => exact cP (Kd.R_reads' HO_7.out).2.2);(case side4 => exact (Kd.R_reads' HO_7.out).2.1);rintro e w49 ⟨v234, rfl, ho0, hb⟩;have n0_ := Aside0.mk (Kd.S_elder' (by (with_reducible repeat (first | apply Kd.S_alloc | apply Kd.S_drewN | apply Kd.S_drew));exact HO_5.out) (Kd.R_base ho0) hb);have n1_ := Aside0.mk (Kd.R_elder' (by exact rP HO_7.out) (Kd.R_base ho0) hb);have n2_ := Aside0.mk (Kd.R_lower (Kd.R_new' ho0 (Kd.R_lt (by exact rP HO_7.out))) (below_size (by exact bB)));have n3_ := Aside0.mk (blk_below (g := gb218) (o := .cells #[.int .i64 a0_0, .slice A0_1 l0_1.length c0_1] 28 (0, 0)) (by exact kP BK218.out) hb);have n4_ := Aside0.mk (below_step (by exact bB) hb);clear HO_5;clear HO_7;clear BK218;clear HB;have HO_5 := n0_;have HO_7 := n1_;have HO235 := n2_;have BK218 := n3_;have HB := n4_;clear n0_ n1_ n2_ n3_ n4_;(try clear hb);(try clear hb2);(try clear hk);(try clear hi);(try clear ho0);obtain ⟨Ao50, co50, eo50⟩ := Kd.R_slice HO235.out;subst eo50));try go_wp2_with (first | (go_at_call 69;(with_reducible refine (spec_l1Has.calls k3 _ _ x7_2 x8_3 true _ ?side1 ?side2 A18.out).mono ?_);(case side1 => exact cP (Kd.R_reads' HO_7.out).2.2);(case side2 => exact (Kd.R_reads' HO_7.out).2.1);rintro e w' ⟨rfl, ⟨nd, rfl⟩⟩;(try first | exact ⟨rfl, _, World.drewN_drewN _ _ _⟩ | exact ⟨rfl, _, Eq.trans (World.drewN_drewN _ _ _) (congrArg (World.drewN _) (Nat.add_assoc _ _ _))⟩);have hcz48_0 : wr.cell? ⟨gb218, 0, none⟩ = some (.int .i64 a0_0) := (blk_cell BK218.out 0).trans rfl;have hcz48_1 : wr.cell? ⟨gb218, 1, none⟩ = some (.slice A0_1 l0_1.length c0_1) := (blk_cell BK218.out 1).trans rfl;have hfz48_0 := blk_frozen BK218.out 0;have hfz48_1 := blk_frozen BK218.out 1) | (go_at_call 101;(with_reducible refine (spec_l9Open.calls k3 a0_0 _ _ l0_1 _ _ x7_2 x8_3 t233 _ ?side1 ?side2 ?side3 ?side4 A20.out).mono ?_);(case side1 => exact cP (Kd.C_below HR0_1.out (by repeat (first | (with_reducible first | exact HB.out | apply below_alloc | apply pw_below_drewN | apply below_drew1 | refine below_set ?_ GE218.out) | exact HB.out))));(case side2 => exact HC0_1.out);(case side3 => exact cP (Kd.R_reads' HO_7.out).2.2);(case side4 => exact (Kd.R_reads' HO_7.out).2.1);rintro e w49 ⟨v234, rfl, ho0, hb⟩;have n0_ := Aside0.mk (Kd.S_elder' (by (with_reducible repeat (first | apply Kd.S_alloc | apply Kd.S_drewN | apply Kd.S_drew));exact HO_5.out) (Kd.R_base ho0) hb);have n1_ := Aside0.mk (Kd.R_elder' (by exact rP HO_7.out) (Kd.R_base ho0) hb);have n2_ := Aside0.mk (Kd.R_lower (Kd.R_new' ho0 (Kd.R_lt (by exact rP HO_7.out))) (below_size (by exact bB)));have n3_ := Aside0.mk (blk_below (g := gb218) (o := .cells #[.int .i64 a0_0, .slice A0_1 l0_1.length c0_1] 28 (0, 0)) (by exact kP BK218.out) hb);have n4_ := Aside0.mk (below_step (by exact bB) hb);clear HO_5;clear HO_7;clear BK218;clear HB;have HO_5 := n0_;have HO_7 := n1_;have HO235 := n2_;have BK218 := n3_;have HB := n4_;clear n0_ n1_ n2_ n3_ n4_;(try clear hb);(try clear hb2);(try clear hk);(try clear hi);(try clear ho0);obtain ⟨Ao50, co50, eo50⟩ := Kd.R_slice HO235.out;subst eo50)))
           go_roundg k3
           case measure => have := HK1.out;have := HK2.out;have := HK3.out;omega
           case rel => exact ⟨(wrap64 (x8_3 + 1)), (by first | rfl | (simp;done) | (simp [*];done)), H', ⟨by have := HK1.out;have := HK2.out;have := HK3.out;omega⟩, ⟨by (with_reducible repeat (first | apply Kd.S_alloc | apply Kd.S_drewN | apply Kd.S_drew));exact Kd.S_mono HO_5.out (fun _ hk => hk.1)⟩, ⟨by refine rP ?_;exact Kd.R_mono HO_7.out (fun _ hk => trivial)⟩, ⟨by exact kP BK218.out⟩, ⟨by exact bB⟩⟩
         ·replace c19 := Bool.eq_false_iff.mpr c19
          subst c19
          have H1 : (spec_l9Chains.l2 k3 x5_2 x7_2 (wrap64 (x8_3 + 1)) a0_0 l0_1) = some r := by rw [if_neg (show ¬ (false = true) by decide)] at H;exact H
          clear H
          have H := H1
          clear H1
          have H' := Aside0.mk H
          clear H
          go_wp2_with (first | (go_at_call 69;(with_reducible refine (spec_l1Has.calls k3 _ _ x7_2 x8_3 false _ ?side1 ?side2 A18.out).mono ?_);(case side1 => exact cP (Kd.R_reads' HO_7.out).2.2);(case side2 => exact (Kd.R_reads' HO_7.out).2.1);rintro e w' ⟨rfl, ⟨nd, rfl⟩⟩;(try first | exact ⟨rfl, _, World.drewN_drewN _ _ _⟩ | exact ⟨rfl, _, Eq.trans (World.drewN_drewN _ _ _) (congrArg (World.drewN _) (Nat.add_assoc _ _ _))⟩)))
          repeat (go_quiet (first | (go_at_call 69;(with_reducible refine (spec_l1Has.calls k3 _ _ x7_2 x8_3 false _ ?side1 ?side2 A18.out).mono ?_);(case side1 => exact cP (Kd.R_reads' HO_7.out).2.2);(case side2 => exact (Kd.R_reads' HO_7.out).2.1);rintro e w' ⟨rfl, ⟨nd, rfl⟩⟩;(try first | exact ⟨rfl, _, World.drewN_drewN _ _ _⟩ | exact ⟨rfl, _, Eq.trans (World.drewN_drewN _ _ _) (congrArg (World.drewN _) (Nat.add_assoc _ _ _))⟩)));try go_wp2_with (first | (go_at_call 69;(with_reducible refine (spec_l1Has.calls k3 _ _ x7_2 x8_3 false _ ?side1 ?side2 A18.out).mono ?_);(case side1 => exact cP (Kd.R_reads' HO_7.out).2.2);(case side2 => exact (Kd.R_reads' HO_7.out).2.1);rintro e w' ⟨rfl, ⟨nd, rfl⟩⟩;(try first | exact ⟨rfl, _, World.drewN_drewN _ _ _⟩ | exact ⟨rfl, _, Eq.trans (World.drewN_drewN _ _ _) (congrArg (World.drewN _) (Nat.add_assoc _ _ _))⟩))))
          go_roundg k3
          case measure => have := HK1.out;have := HK2.out;have := HK3.out;omega
          case rel => exact ⟨(wrap64 (x8_3 + 1)), (by first | rfl | (simp;done) | (simp [*];done)), H', ⟨by have := HK1.out;have := HK2.out;have := HK3.out;omega⟩, ⟨by (with_reducible repeat (first | apply Kd.S_alloc | apply Kd.S_drewN | apply Kd.S_drew));exact HO_5.out⟩, ⟨by exact rP HO_7.out⟩, ⟨by exact kP BK218.out⟩, ⟨by exact bB⟩⟩
      ·rw [if_neg c15] at H
       have c15b0 : decide ((x7_2.length : Int) < a0_0) = false := decide_eq_false c15
       clear c15
       obtain rfl := Option.some.inj H
       obtain ⟨Ao51, co51, eo51⟩ := Kd.R_slice HO_7.out
       subst eo51
       have hcz52_0 : wr.cell? ⟨gb218, 0, none⟩ = some (.int .i64 a0_0) := (blk_cell BK218.out 0).trans rfl
       have hcz52_1 : wr.cell? ⟨gb218, 1, none⟩ = some (.slice A0_1 l0_1.length c0_1) := (blk_cell BK218.out 1).trans rfl
       have hfz52_0 := blk_frozen BK218.out 0
       have hfz52_1 := blk_frozen BK218.out 1
       go_wp2
       repeat (go_quiet (fail);try go_wp2)
       go_ret
       exact ⟨_, by first | rfl | (simp [errW_none, errW_some] <;> rfl) | (simp [*, errW_none, errW_some] <;> rfl), by (with_reducible repeat (first | apply Kd.S_alloc | apply Kd.S_drewN | apply Kd.S_drew));exact Kd.S_mono HO_5.out (fun _ hk => trivial), by exact bB⟩


end Go.Proofs.YthbjajppdomhhaaDoor.QChainsOf
