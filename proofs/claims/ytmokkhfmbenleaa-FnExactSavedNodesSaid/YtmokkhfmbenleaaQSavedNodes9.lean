import Derived.Test.YtmokkhfmbenleaaQSavedNodes0
import Derived.Test.YtmokkhfmbenleaaQSavedNodes1
import Derived.Test.YtmokkhfmbenleaaQSavedNodes7
import Derived.Test.YtmokkhfmbenleaaQSavedNodes8
namespace Go.Proofs.Ytmokkhfmbenleaa.QSavedNodes
open Go.RowKit Go.Proofs.YtmokkhfmbenleaaW.PrintWords Go.Proofs.YtmokkhfmbenleaaW.PrintLast Go.Proofs.YtmokkhfmbenleaaW.PrintMore
attribute [local go_sem] max2_int min2_int max_two min_two max_three min_three max_four min_four   -- for this text's walks alone
set_option linter.unusedVariables false
set_option linter.unusedSimpArgs false
/-! ### spec_SavedNodes: function 13 -/
mutual
def spec_SavedNodes.j0 : Nat → Int → List (List Int) → List Int → Bool → Int → List (S119) → Option (List Int × Bool)
 | 0, _, _, _, _, _, _ => none
 | k + 1, x1, x3, x10, x26, x225000, x225001 => if x26 = true then (some (x10, false)) else ((spec_l8Burn.f k x225000 x225001 x1 x3).bind fun t230 => (spec_SavedNodes.l0 k x10 t230 0 x225000 x225001))
def spec_SavedNodes.l0 : Nat → List Int → List (S71) → Int → Int → List (S119) → Option (List Int × Bool)
 | 0, _, _, _, _, _ => none
 | k + 1, x10, x11, x12, x225000, x225001 => if x12 < x225000 then (if 0 ≤ (wrap64 ((x11.length : Int) - 1)) then (if (wrap64 ((x11.length : Int) - 1)) < (x11.length : Int) then ((spec_l1Has.f k ((rd_T71 x11 (wrap64 ((x11.length : Int) - 1))).f0) x12).bind fun t234 => (if t234 = true then (spec_SavedNodes.l0 k x10 x11 (wrap64 (x12 + 1)) x225000 x225001) else (if x10.length < 17592186044416 then (spec_SavedNodes.l0 k (x10 ++ [x12]) x11 (wrap64 (x12 + 1)) x225000 x225001) else (none)))) else (none)) else (none)) else (some (x10, true))
end
def spec_SavedNodes.f (k : Nat) (a0_0 : Int) (l0_1 : List (S119)) (a1 : Int) (a2 : Int) (l3 : List (List Int)) : Option (List Int × Bool) := (some (([] : List Int) : List Int)).bind fun y225 => ((spec_l8Good.f a0_0 l0_1 a1 a2).bind fun t228 => (if t228 = true then ((spec_l8Plan.f k a0_0 l0_1 a1 a2 l3).bind fun t229 => (spec_SavedNodes.j0 k a1 l3 y225 (!t229) a0_0 l0_1)) else (spec_SavedNodes.j0 k a1 l3 y225 true a0_0 l0_1)))
theorem spec_SavedNodes.mono_l : ∀ k, (∀ y0 y1 y2 y3 y4 y5, LeO (spec_SavedNodes.j0 k y0 y1 y2 y3 y4 y5) (spec_SavedNodes.j0 (k + 1) y0 y1 y2 y3 y4 y5)) ∧ (∀ y0 y1 y2 y3 y4, LeO (spec_SavedNodes.l0 k y0 y1 y2 y3 y4) (spec_SavedNodes.l0 (k + 1) y0 y1 y2 y3 y4))
 | 0 => ⟨fun _ _ _ _ _ _ r h => by simp [spec_SavedNodes.j0] at h, fun _ _ _ _ _ r h => by simp [spec_SavedNodes.l0] at h⟩
 | k + 1 => by
  obtain ⟨ih0, ih1⟩ := spec_SavedNodes.mono_l k
  refine ⟨?_, ?_⟩
  ·intro y0 y1 y2 y3 y4 y5
   unfold spec_SavedNodes.j0
   repeat' first
   | (with_reducible exact ih0 _ _ _ _ _ _)
   | (with_reducible exact ih1 _ _ _ _ _)
   | (with_reducible exact spec_l1Has.mono _ _ _)
   | (with_reducible exact spec_l8Burn.mono _ _ _ _ _)
   | (with_reducible exact spec_l8Plan.mono _ _ _ _ _ _)
   | (with_reducible exact LeO.refl _)
   | (with_reducible exact LeO.none _)
   | (with_reducible refine LeO.ite ?_ ?_)
   | (with_reducible refine LeO.bind ?_ (fun _ => ?_))
   | exact ih0 _ _ _ _ _ _
   | exact ih1 _ _ _ _ _
   | exact spec_l1Has.mono _ _ _
   | exact spec_l8Burn.mono _ _ _ _ _
   | exact spec_l8Plan.mono _ _ _ _ _ _
   | exact LeO.none _
   | refine LeO.ite ?_ ?_
   | refine LeO.bind ?_ (fun _ => ?_)
  ·intro y0 y1 y2 y3 y4
   unfold spec_SavedNodes.l0
   repeat' first
   | (with_reducible exact ih0 _ _ _ _ _ _)
   | (with_reducible exact ih1 _ _ _ _ _)
   | (with_reducible exact spec_l1Has.mono _ _ _)
   | (with_reducible exact spec_l8Burn.mono _ _ _ _ _)
   | (with_reducible exact spec_l8Plan.mono _ _ _ _ _ _)
   | (with_reducible exact LeO.refl _)
   | (with_reducible exact LeO.none _)
   | (with_reducible refine LeO.ite ?_ ?_)
   | (with_reducible refine LeO.bind ?_ (fun _ => ?_))
   | exact ih0 _ _ _ _ _ _
   | exact ih1 _ _ _ _ _
   | exact spec_l1Has.mono _ _ _
   | exact spec_l8Burn.mono _ _ _ _ _
   | exact spec_l8Plan.mono _ _ _ _ _ _
   | exact LeO.none _
   | refine LeO.ite ?_ ?_
   | refine LeO.bind ?_ (fun _ => ?_)
theorem spec_SavedNodes.mono : ∀ a0 a1 a2 a3 a4 k, LeO (spec_SavedNodes.f k a0 a1 a2 a3 a4) (spec_SavedNodes.f (k + 1) a0 a1 a2 a3 a4) := by
 intro a0 a1 a2 a3 a4 k
 obtain ⟨ih0, ih1⟩ := spec_SavedNodes.mono_l k
 unfold spec_SavedNodes.f
 repeat' first
   | (with_reducible exact ih0 _ _ _ _ _ _)
   | (with_reducible exact ih1 _ _ _ _ _)
   | (with_reducible exact spec_l1Has.mono _ _ _)
   | (with_reducible exact spec_l8Burn.mono _ _ _ _ _)
   | (with_reducible exact spec_l8Plan.mono _ _ _ _ _ _)
   | (with_reducible exact LeO.refl _)
   | (with_reducible exact LeO.none _)
   | (with_reducible refine LeO.ite ?_ ?_)
   | (with_reducible refine LeO.bind ?_ (fun _ => ?_))
   | exact ih0 _ _ _ _ _ _
   | exact ih1 _ _ _ _ _
   | exact spec_l1Has.mono _ _ _
   | exact spec_l8Burn.mono _ _ _ _ _
   | exact spec_l8Plan.mono _ _ _ _ _ _
   | exact LeO.none _
   | refine LeO.ite ?_ ?_
   | refine LeO.bind ?_ (fun _ => ?_)
set_option maxHeartbeats 8000000 in
set_option maxRecDepth 100000 in
theorem spec_SavedNodes.calls (k : Nat) (a0_0 : Int) (A0_1 : Option Addr) (c0_1 : Nat) (l0_1 : List (S119)) (a1 : Int) (a2 : Int) (A3 : Option Addr) (c3 : Nat) (l3 : List (List Int)) (r1 : List Int) (r2 : Bool) (w : World) (hr0_1 : Kd.C k119 w A0_1 l0_1.length l0_1) (hc0_1 : l0_1.length ≤ c0_1) (hr3 : Kd.C (Kd.slice 3 (Kd.int .i64)) w A3 l3.length l3) (hc3 : l3.length ≤ c3) (h : spec_SavedNodes.f k a0_0 l0_1 a1 a2 l3 = some (r1, r2)) :
  Calls Try.prog 13 #[.agg #[.int .i64 a0_0, .slice A0_1 l0_1.length c0_1], .int .i64 a1, .int .i64 a2, .slice A3 l3.length c3] w fun e w' => ∃ v0_ : Value, e = .returned (.tuple #[v0_, .bool r2]) ∧ Kd.R (Kd.int .i64) 3 w' w.heap.size (fun _ => True) v0_ r1 ∧ Below w.heap.size w w' := by
 have hu31 := Try.underlying31
 have HR0_1 := Aside0.mk hr0_1
 have HC0_1 := Aside0.mk hc0_1
 clear hr0_1 hc0_1
 have HR3 := Aside0.mk hr3
 have HC3 := Aside0.mk hc3
 clear hr3 hc3
 have HB := Aside0.mk (Below.refl w.heap.size w)
 have H : ((some (([] : List Int) : List Int)).bind fun y225 => ((spec_l8Good.f a0_0 l0_1 a1 a2).bind fun t228 => (if t228 = true then ((spec_l8Plan.f k a0_0 l0_1 a1 a2 l3).bind fun t229 => (spec_SavedNodes.j0 k a1 l3 y225 (!t229) a0_0 l0_1)) else (spec_SavedNodes.j0 k a1 l3 y225 true a0_0 l0_1)))) = some (r1, r2) := h
 clear h
 obtain ⟨y225, hy225⟩ : ∃ y_ : List Int, y_ = (([] : List Int)) := ⟨_, rfl⟩
 replace H : ((spec_l8Good.f a0_0 l0_1 a1 a2).bind fun t228 => (if t228 = true then ((spec_l8Plan.f k a0_0 l0_1 a1 a2 l3).bind fun t229 => (spec_SavedNodes.j0 k a1 l3 y225 (!t229) a0_0 l0_1)) else (spec_SavedNodes.j0 k a1 l3 y225 true a0_0 l0_1))) = some (r1, r2) := by first | (rw [hy225];with_reducible exact H) | (have H2_ := (Option.bind_some _ _).symm.trans H;rw [hy225];with_reducible exact H2_) | (have H2_ := (Option.bind_some _ _).symm.trans H;with_reducible exact H2_) | with_reducible exact H | (rw [hy225];exact H) | exact H
 have Ny225 := Aside0.mk hy225
 clear hy225
 have HC5 := Aside0.mk H
 clear H
 go_enter Try.func13, Try.ntmps13
 go_upto_region 2 with (first | ((with_reducible refine gate_dst (N := 4) rfl ?_);refine box_event ?hg (N := 4) ?hd (cs := #[.int .i64 a0_0, .slice A0_1 l0_1.length c0_1]) (t := 31) ?hr ?_;(case hd => rfl);(case hg => rfl);(case hr => first | (go_simp;done) | (go_simp;rfl));intro gb224 hg w6 hbox hb;have n0_ := Aside0.mk (below_step (by exact bB) hb);have n1_ := Aside0.mk (hbox);have n2_ := Aside0.mk ((by rw [hg];exact (below_size (by exact bB)) : w.heap.size ≤ gb224));have n3_ := Aside0.mk ((by rw [hg];exact (below_size (by exact bB)) : w.heap.size ≤ gb224));clear HB;have HB := n0_;have BK224 := n1_;have GW224 := n2_;have GE224 := n3_;clear n0_ n1_ n2_ n3_;clear hb hbox hg) | ((with_reducible refine gate_dst (N := 13) rfl ?_);refine Kd.R_lit (Kd.int .i64) _ 3 ?hg (N := 13) ?hd (xs := ([] : List Int)) (inner := []) (ok := fun _ => True) (okp := fun _ => True) ?hr ?hp (fun _ hk => hk) trivial (Below.refl _ _) (Nat.le_refl _) (by simp) ?_;(case hd => rfl);(case hg => rfl);(case hr => first | (go_simp;done) | (go_simp;rfl));(case hp => exact (Reps.none _ _));intro v226 w7 ho8 hb hg_ hnew_;clear hg_ hnew_;(first | rw [← Ny225.out] at ho8 | (simp only [Int.reduceToNat] at ho8;rw [← Ny225.out] at ho8));have n0_ := Aside0.mk (Kd.R_lower ho8 (below_size (by exact bB)));have n1_ := Aside0.mk (blk_below (g := gb224) (o := .cells #[.int .i64 a0_0, .slice A0_1 l0_1.length c0_1] 31 (0, 0)) (by exact kP BK224.out) hb);have n2_ := Aside0.mk (below_step (by exact bB) hb);clear BK224;clear HB;have HO227 := n0_;have BK224 := n1_;have HB := n2_;clear n0_ n1_ n2_;clear hb ho8))
 (try simp only [Act.put, List.setIfInBounds_toArray, List.set_cons_zero, List.set_cons_succ])
 go_cut [26] (fun v26 wc => ∃ (kq : Nat) (x26_4 : Bool), v26 = .bool x26_4 ∧ Aside0 (spec_SavedNodes.j0 kq a1 l3 y225 x26_4 a0_0 l0_1 = some (r1, r2)) ∧ Aside0 (kq ≤ k) ∧ Aside0 (Kd.R (Kd.int .i64) 3 wc w.heap.size (fun _ => True) v226 y225) ∧ Aside0 (wc.heap[gb224]? = some (.cells #[.int .i64 a0_0, (.slice A0_1 l0_1.length c0_1)] 31 (0, 0))) ∧ Aside0 (Below w.heap.size w wc))
 case first =>
  have H := HC5.out
  clear HC5
  replace H := Option.bind_eq_some_iff.mp H
  obtain ⟨t228, A90, H⟩ := H
  replace H : (if t228 = true then ((spec_l8Plan.f k a0_0 l0_1 a1 a2 l3).bind fun t229 => (spec_SavedNodes.j0 k a1 l3 y225 (!t229) a0_0 l0_1)) else (spec_SavedNodes.j0 k a1 l3 y225 true a0_0 l0_1)) = some (r1, r2) := H
  have A9 := Aside0.mk A90
  clear A90
  by_cases c10 : t228 = true
  ·subst c10
   have H1 : ((spec_l8Plan.f k a0_0 l0_1 a1 a2 l3).bind fun t229 => (spec_SavedNodes.j0 k a1 l3 y225 (!t229) a0_0 l0_1)) = some (r1, r2) := by rw [if_pos rfl] at H;exact H
   clear H
   have H := H1
   clear H1
   replace H := Option.bind_eq_some_iff.mp H
   obtain ⟨t229, A110, H⟩ := H
   replace H : (spec_SavedNodes.j0 k a1 l3 y225 (!t229) a0_0 l0_1) = some (r1, r2) := H
   have A11 := Aside0.mk A110
   clear A110
   have H' := Aside0.mk H
   clear H
   have hcz12_0 : w7.cell? ⟨gb224, 0, none⟩ = some (.int .i64 a0_0) := (blk_cell BK224.out 0).trans rfl
   have hcz12_1 : w7.cell? ⟨gb224, 1, none⟩ = some (.slice A0_1 l0_1.length c0_1) := (blk_cell BK224.out 1).trans rfl
   have hfz12_0 := blk_frozen BK224.out 0
   have hfz12_1 := blk_frozen BK224.out 1
   go_wp2_with (first | ((with_reducible refine gate_callee (f := 63) rfl ?_);refine goesL_ (some 17) rfl rfl Try.func63 (by kernel_rfl) rfl #[.agg #[.int .i64 a0_0, .slice A0_1 l0_1.length c0_1], .int .i64 a1, .int .i64 a2] rfl mM ?_;(with_reducible refine (spec_l8Good.calls a0_0 _ _ l0_1 a1 a2 true _ ?side1 ?side2 A9.out).mono ?_);(case side1 => exact cP (Kd.C_below HR0_1.out HB.out));(case side2 => exact HC0_1.out);rintro e w13 ⟨rfl, hb⟩;refine ⟨_, rfl, ?_⟩;have n0_ := Aside0.mk (Kd.R_below (by exact rP HO227.out) hb);have n1_ := Aside0.mk (blk_below (g := gb224) (o := .cells #[.int .i64 a0_0, .slice A0_1 l0_1.length c0_1] 31 (0, 0)) (by exact kP BK224.out) hb);have n2_ := Aside0.mk (below_step (by exact bB) hb);clear HO227;clear BK224;clear HB;have HO227 := n0_;have BK224 := n1_;have HB := n2_;clear n0_ n1_ n2_;(try clear hb);(try clear hb2);(try clear hk);(try clear hi);have hcz14_0 : w13.cell? ⟨gb224, 0, none⟩ = some (.int .i64 a0_0) := (blk_cell BK224.out 0).trans rfl;have hcz14_1 : w13.cell? ⟨gb224, 1, none⟩ = some (.slice A0_1 l0_1.length c0_1) := (blk_cell BK224.out 1).trans rfl;have hfz14_0 := blk_frozen BK224.out 0;have hfz14_1 := blk_frozen BK224.out 1) | (go_at_call 64;(with_reducible refine (spec_l8Plan.calls k a0_0 _ _ l0_1 a1 a2 _ _ l3 t229 _ ?side1 ?side2 ?side3 ?side4 A11.out).mono ?_);(case side1 => exact cP (Kd.C_below HR0_1.out HB.out));(case side2 => exact HC0_1.out);(case side3 => exact cP (Kd.C_below HR3.out HB.out));(case side4 => exact HC3.out);rintro e w15 ⟨rfl, hb⟩;have n0_ := Aside0.mk (Kd.R_below (by exact rP HO227.out) hb);have n1_ := Aside0.mk (blk_below (g := gb224) (o := .cells #[.int .i64 a0_0, .slice A0_1 l0_1.length c0_1] 31 (0, 0)) (by exact kP BK224.out) hb);have n2_ := Aside0.mk (below_step (by exact bB) hb);clear HO227;clear BK224;clear HB;have HO227 := n0_;have BK224 := n1_;have HB := n2_;clear n0_ n1_ n2_;(try clear hb);(try clear hb2);(try clear hk);(try clear hi)))
   go_meet
   case rel => exact ⟨_, (!t229), (by first | rfl | (simp;done) | (simp [*];done)), H', ⟨by first | omega | exact Nat.le_refl _⟩, ⟨by exact rP HO227.out⟩, ⟨by exact kP BK224.out⟩, ⟨by exact bB⟩⟩
  ·replace c10 := Bool.eq_false_iff.mpr c10
   subst c10
   have H1 : (spec_SavedNodes.j0 k a1 l3 y225 true a0_0 l0_1) = some (r1, r2) := by rw [if_neg (show ¬ (false = true) by decide)] at H;exact H
   clear H
   have H := H1
   clear H1
   have H' := Aside0.mk H
   clear H
   have hcz16_0 : w7.cell? ⟨gb224, 0, none⟩ = some (.int .i64 a0_0) := (blk_cell BK224.out 0).trans rfl
   have hcz16_1 : w7.cell? ⟨gb224, 1, none⟩ = some (.slice A0_1 l0_1.length c0_1) := (blk_cell BK224.out 1).trans rfl
   have hfz16_0 := blk_frozen BK224.out 0
   have hfz16_1 := blk_frozen BK224.out 1
   go_wp2_with (first | ((with_reducible refine gate_callee (f := 63) rfl ?_);refine goesL_ (some 17) rfl rfl Try.func63 (by kernel_rfl) rfl #[.agg #[.int .i64 a0_0, .slice A0_1 l0_1.length c0_1], .int .i64 a1, .int .i64 a2] rfl mM ?_;(with_reducible refine (spec_l8Good.calls a0_0 _ _ l0_1 a1 a2 false _ ?side1 ?side2 A9.out).mono ?_);(case side1 => exact cP (Kd.C_below HR0_1.out HB.out));(case side2 => exact HC0_1.out);rintro e w17 ⟨rfl, hb⟩;refine ⟨_, rfl, ?_⟩;have n0_ := Aside0.mk (Kd.R_below (by exact rP HO227.out) hb);have n1_ := Aside0.mk (blk_below (g := gb224) (o := .cells #[.int .i64 a0_0, .slice A0_1 l0_1.length c0_1] 31 (0, 0)) (by exact kP BK224.out) hb);have n2_ := Aside0.mk (below_step (by exact bB) hb);clear HO227;clear BK224;clear HB;have HO227 := n0_;have BK224 := n1_;have HB := n2_;clear n0_ n1_ n2_;(try clear hb);(try clear hb2);(try clear hk);(try clear hi)))
   go_meet
   case rel => exact ⟨_, (true), (by first | rfl | (simp;done) | (simp [*];done)), H', ⟨by first | omega | exact Nat.le_refl _⟩, ⟨by exact rP HO227.out⟩, ⟨by exact kP BK224.out⟩, ⟨by exact bB⟩⟩
 case rest =>
  clear HC5
  try clear c1
  try clear p2
  try clear c3
  try clear c6
  try clear c10
  try clear c13
  try clear hcz12_0
  try clear hcz12_1
  try clear hcz14_0
  try clear hcz14_1
  try clear hcz16_0
  try clear hcz16_1
  try clear hfz12_0
  try clear hfz12_1
  try clear hfz14_0
  try clear hfz14_1
  try clear hfz16_0
  try clear hfz16_1
  obtain ⟨kq, x26_4, rfl, HA, HJ4, HO_10, BK224, HB⟩ := hcut
  cases kq with
  | zero => exact absurd HA.out (by simp [spec_SavedNodes.j0])
  | succ kj4 =>
   have H := HA.out
   clear HA
   simp only [spec_SavedNodes.j0] at H
   by_cases c18 : x26_4 = true
   ·subst c18
    have H1 : (some (y225, false)) = some (r1, r2) := by rw [if_pos rfl] at H;exact H
    clear H
    have H := H1
    clear H1
    simp only [Option.some.injEq, Prod.mk.injEq] at H
    obtain ⟨rfl, rfl⟩ := H
    go_wp2
    go_ret2
    exact ⟨_, by first | rfl | (simp [errW_none, errW_some] <;> rfl) | (simp [*, errW_none, errW_some] <;> rfl), by exact rP HO_10.out, by exact bB⟩
   ·replace c18 := Bool.eq_false_iff.mpr c18
    subst c18
    have H1 : ((spec_l8Burn.f kj4 a0_0 l0_1 a1 l3).bind fun t230 => (spec_SavedNodes.l0 kj4 y225 t230 0 a0_0 l0_1)) = some (r1, r2) := by rw [if_neg (show ¬ (false = true) by decide)] at H;exact H
    clear H
    have H := H1
    clear H1
    replace H := Option.bind_eq_some_iff.mp H
    obtain ⟨t230, A190, H⟩ := H
    replace H : (spec_SavedNodes.l0 kj4 y225 t230 0 a0_0 l0_1) = some (r1, r2) := H
    have A19 := Aside0.mk A190
    clear A190
    have H' := Aside0.mk H
    clear H
    have hcz20_0 : wc.cell? ⟨gb224, 0, none⟩ = some (.int .i64 a0_0) := (blk_cell BK224.out 0).trans rfl
    have hcz20_1 : wc.cell? ⟨gb224, 1, none⟩ = some (.slice A0_1 l0_1.length c0_1) := (blk_cell BK224.out 1).trans rfl
    have hfz20_0 := blk_frozen BK224.out 0
    have hfz20_1 := blk_frozen BK224.out 1
    go_wp2_with (first | ((with_reducible refine gate_callee (f := 65) rfl ?_);refine goesL_ (some 31) rfl rfl Try.func65 (by kernel_rfl) rfl #[.agg #[.int .i64 a0_0, .slice A0_1 l0_1.length c0_1], .int .i64 a1, .slice A3 l3.length c3] rfl mM ?_;(with_reducible refine (spec_l8Burn.calls kj4 a0_0 _ _ l0_1 a1 _ _ l3 t230 _ ?side1 ?side2 ?side3 ?side4 A19.out).mono ?_);(case side1 => exact cP (Kd.C_below HR0_1.out HB.out));(case side2 => exact HC0_1.out);(case side3 => exact cP (Kd.C_below HR3.out HB.out));(case side4 => exact HC3.out);rintro e w21 ⟨v231, rfl, ho0, hb⟩;refine ⟨_, rfl, ?_⟩;have n0_ := Aside0.mk (Kd.R_below (by exact rP HO_10.out) hb);have n1_ := Aside0.mk (Kd.N_lower (Kd.N_mono (ok' := fun k_ => some k_ ≠ (v226 : Value).ownBlock ∧ k_ ≠ gb224) ho0 (fun k_ hk_ => ⟨(Kd.fresh' (Kd.R_lt (by exact rP HO_10.out)) k_ hk_), (Kd.freshB (g := gb224) (o := .cells #[.int .i64 a0_0, .slice A0_1 l0_1.length c0_1] 31 (0, 0)) (by exact kP BK224.out) k_ hk_)⟩)) (below_size (by exact bB)));have n2_ := Aside0.mk (blk_below (g := gb224) (o := .cells #[.int .i64 a0_0, .slice A0_1 l0_1.length c0_1] 31 (0, 0)) (by exact kP BK224.out) hb);have n3_ := Aside0.mk (below_step (by exact bB) hb);clear HO_10;clear BK224;clear HB;have HO_10 := n0_;have HO232 := n1_;have BK224 := n2_;have HB := n3_;clear n0_ n1_ n2_ n3_;(try clear hb);(try clear hb2);(try clear hk);(try clear hi);(try clear ho0)))
    go_loopg [10, 12] kj4 (fun kq v10 v12 w' => ∃ (x10_2 : List Int) (x12_2 : Int), v12 = .int .i64 x12_2 ∧ Aside0 (spec_SavedNodes.l0 kq x10_2 t230 x12_2 a0_0 l0_1 = some (r1, r2)) ∧ Aside0 (kq ≤ kj4) ∧ Aside0 (Kd.R (Kd.int .i64) 3 w' w.heap.size (fun _ => True) v10 x10_2) ∧ Aside0 (Kd.N k71 71 w' w.heap.size (fun k_ => some k_ ≠ (v10 : Value).ownBlock ∧ k_ ≠ gb224) v231 t230) ∧ Aside0 (w'.heap[gb224]? = some (.cells #[.int .i64 a0_0, (.slice A0_1 l0_1.length c0_1)] 31 (0, 0))) ∧ Aside0 (Below w.heap.size w w'))
    case atStart => exact ⟨(y225), (0), (by first | rfl | (simp;done) | (simp [*];done)), H', ⟨Nat.le_refl _⟩, ⟨by exact rP HO_10.out⟩, ⟨by (with_reducible repeat (first | apply Kd.N_alloc | apply Kd.N_drewN | apply Kd.N_drew));exact HO232.out⟩, ⟨by exact kP BK224.out⟩, ⟨by exact bB⟩⟩
    case round =>
     clear H'
     try clear c1
     try clear p2
     try clear c3
     try clear c6
     try clear c10
     try clear c13
     try clear c18
     try clear hcz12_0
     try clear hcz12_1
     try clear hcz14_0
     try clear hcz14_1
     try clear hcz16_0
     try clear hcz16_1
     try clear hcz20_0
     try clear hcz20_1
     try clear hfz12_0
     try clear hfz12_1
     try clear hfz14_0
     try clear hfz14_1
     try clear hfz16_0
     try clear hfz16_1
     try clear hfz20_0
     try clear hfz20_1
     try clear p2
     obtain ⟨x10_2, x12_2, rfl, HA, HK2, HO_10, HO_11, BK224, HB⟩ := hrel
     cases gk with
     | zero => exact absurd HA.out (by simp [spec_SavedNodes.l0])
     | succ k2 =>
      have H := HA.out
      clear HA
      simp only [spec_SavedNodes.l0] at H
      by_cases c22 : x12_2 < a0_0
      ·rw [if_pos c22] at H
       have c22b0 : decide (x12_2 < a0_0) = true := decide_eq_true c22
       clear c22
       obtain ⟨ji23, hji23⟩ : ∃ j_ : Int, (wrap64 ((t230.length : Int) - 1)) = j_ := ⟨_, rfl⟩
       replace H : (if 0 ≤ (ji23) then (if (ji23) < (t230.length : Int) then ((spec_l1Has.f k2 ((rd_T71 t230 (ji23)).f0) x12_2).bind fun t234 => (if t234 = true then (spec_SavedNodes.l0 k2 x10_2 t230 (wrap64 (x12_2 + 1)) a0_0 l0_1) else (if x10_2.length < 17592186044416 then (spec_SavedNodes.l0 k2 (x10_2 ++ [x12_2]) t230 (wrap64 (x12_2 + 1)) a0_0 l0_1) else (none)))) else (none)) else (none)) = some (r1, r2) := by first | (rw [hji23] at H;exact H) | (simp only [hji23] at H ⊢;exact H)
       have hji23w : (IntKind.i64.wrap ((t230.length : Int) - 1)) = ji23 := (i64_w _).trans hji23
       by_cases c24 : 0 ≤ (ji23)
       ·rw [if_pos c24] at H
        have c24b0 : decide (0 ≤ (ji23)) = true := decide_eq_true c24
        clear c24
        by_cases c25 : (ji23) < (t230.length : Int)
        ·rw [if_pos c25] at H
         have c25b0 : decide ((ji23) < (t230.length : Int)) = true := decide_eq_true c25
         clear c25
         replace H := Option.bind_eq_some_iff.mp H
         obtain ⟨t234, A260, H⟩ := H
         replace H : (if t234 = true then (spec_SavedNodes.l0 k2 x10_2 t230 (wrap64 (x12_2 + 1)) a0_0 l0_1) else (if x10_2.length < 17592186044416 then (spec_SavedNodes.l0 k2 (x10_2 ++ [x12_2]) t230 (wrap64 (x12_2 + 1)) a0_0 l0_1) else (none))) = some (r1, r2) := H
         have A26 := Aside0.mk A260
         clear A260
         by_cases c27 : t234 = true
         ·subst c27
          have H1 : (spec_SavedNodes.l0 k2 x10_2 t230 (wrap64 (x12_2 + 1)) a0_0 l0_1) = some (r1, r2) := by rw [if_pos rfl] at H;exact H
          clear H
          have H := H1
          clear H1
          have H' := Aside0.mk H
          clear H
          have hcz28_0 : wr.cell? ⟨gb224, 0, none⟩ = some (.int .i64 a0_0) := (blk_cell BK224.out 0).trans rfl
          have hcz28_1 : wr.cell? ⟨gb224, 1, none⟩ = some (.slice A0_1 l0_1.length c0_1) := (blk_cell BK224.out 1).trans rfl
          have hfz28_0 := blk_frozen BK224.out 0
          have hfz28_1 := blk_frozen BK224.out 1
          obtain ⟨Ao29, co29, eo29⟩ := Kd.N_slice HO_11.out
          subst eo29
          have p233 : 0 ≤ ((ji23) : Int) := oA
          have q233 : (ji23) < (t230.length : Int) := oA
          obtain ⟨ad233, A233_0, c233_0, A233_1, c233_1, e233, hx233_0, hx233_1, hl233_0, hi233_0, hl233_1, hi233_1⟩ := at_T71 (Kd.N_reads' HO_11.out).2.2 (ji23) p233 q233
          cases e233
          obtain ⟨ce233, hce233, hMe233, hcc233⟩ := Kd.N_get HO_11.out z71 (ji23) p233 (by first | exact q233 | exact oA | (have e_ := (Kd.N_reads' HO_11.out).1;omega))
          obtain ⟨ua233_0, uc233_0, ua233_1, uc233_1, rfl, ul233_0, ge233_0, ul233_1, ge233_1⟩ := k71_openF hMe233
          have hv233_0 := hcc233 0 _ rfl
          rw [Nat.add_zero] at hv233_0
          replace hv233_0 := Option.some.inj (hv233_0.symm.trans hx233_0)
          injection hv233_0 with hva_ hvn_ hvc_
          rw [hva_] at ge233_0
          rw [hvc_] at ul233_0
          have HL233_0 := Aside0.mk (show Kd.V (Kd.int .i64) 3 _ w.heap.size _ _ ((rd_T71 t230 (ji23)).f0) from Kd.V_mk ul233_0 ge233_0)
          clear hva_ hvn_ hvc_ ge233_0 ul233_0
          have hv233_1 := hcc233 1 _ rfl
          rw [add_field _ _ 1 (by omega)] at hv233_1
          replace hv233_1 := Option.some.inj (hv233_1.symm.trans hx233_1)
          injection hv233_1 with hva_ hvn_ hvc_
          rw [hva_] at ge233_1
          rw [hvc_] at ul233_1
          have HL233_1 := Aside0.mk (show Kd.V (Kd.int .i64) 3 _ w.heap.size _ _ ((rd_T71 t230 (ji23)).f1) from Kd.V_mk ul233_1 ge233_1)
          clear hva_ hvn_ hvc_ ge233_1 ul233_1
          clear hcc233 hce233
          have HR233_0 := Aside0.mk hi233_0
          have HC233_0 := Aside0.mk hl233_0
          clear hi233_0 hl233_0
          have HR233_1 := Aside0.mk hi233_1
          have HC233_1 := Aside0.mk hl233_1
          clear hi233_1 hl233_1
          replace p233 := eq_true p233
          replace q233 := eq_true q233
          go_wp2_with (first | ((with_reducible refine gate_callee (f := 66) rfl ?_);refine goesL_ (some 46) rfl rfl Try.func66 (by kernel_rfl) rfl #[.slice A233_0 ((rd_T71 t230 (ji23)).f0).length c233_0, .int .i64 x12_2] rfl (by (try simp only [List.map_toArray, List.map_cons, List.map_nil]);first | done | (simp only [hji23];rfl) | rfl | (simp only [List.length_drop, List.length_take];rfl)) ?_;(with_reducible refine (spec_l1Has.calls k2 _ _ ((rd_T71 t230 (ji23)).f0) x12_2 true _ ?side1 ?side2 A26.out).mono ?_);(case side1 => exact cP (by repeat (first | (with_reducible exact HR233_0.out) | (with_reducible refine Kd.C_alloc ?_ _) | (with_reducible refine Kd.C_drewN ?_ _) | (with_reducible refine Kd.C_drew ?_) | exact HR233_0.out)));(case side2 => exact HC233_0.out);rintro e w' ⟨rfl, ⟨nd, rfl⟩⟩;refine ⟨_, rfl, ?_⟩))
          go_roundg k2
          case measure => have := HJ4.out;have := HK2.out;omega
          case rel => exact ⟨(x10_2), (wrap64 (x12_2 + 1)), (by first | rfl | (simp;done) | (simp [*];done)), H', ⟨by have := HJ4.out;have := HK2.out;omega⟩, ⟨by exact rP HO_10.out⟩, ⟨by (with_reducible repeat (first | apply Kd.N_alloc | apply Kd.N_drewN | apply Kd.N_drew));exact HO_11.out⟩, ⟨by exact kP BK224.out⟩, ⟨by exact bB⟩⟩
         ·replace c27 := Bool.eq_false_iff.mpr c27
          subst c27
          have H1 : (if x10_2.length < 17592186044416 then (spec_SavedNodes.l0 k2 (x10_2 ++ [x12_2]) t230 (wrap64 (x12_2 + 1)) a0_0 l0_1) else (none)) = some (r1, r2) := by rw [if_neg (show ¬ (false = true) by decide)] at H;exact H
          clear H
          have H := H1
          clear H1
          by_cases c30 : x10_2.length < 17592186044416
          ·rw [if_pos c30] at H
           have LMc30 := Aside0.mk c30
           clear c30
           obtain ⟨y235, hy235⟩ : ∃ y_ : List Int, y_ = (x10_2 ++ [x12_2]) := ⟨_, rfl⟩
           replace H : (spec_SavedNodes.l0 k2 y235 t230 (wrap64 (x12_2 + 1)) a0_0 l0_1) = some (r1, r2) := by first | (rw [hy235];with_reducible exact H) | (have H2_ := (Option.bind_some _ _).symm.trans H;rw [hy235];with_reducible exact H2_) | (have H2_ := (Option.bind_some _ _).symm.trans H;with_reducible exact H2_) | with_reducible exact H | (rw [hy235];exact H) | exact H
           have Ny235 := Aside0.mk hy235
           clear hy235
           have H' := Aside0.mk H
           clear H
           have hcz31_0 : wr.cell? ⟨gb224, 0, none⟩ = some (.int .i64 a0_0) := (blk_cell BK224.out 0).trans rfl
           have hcz31_1 : wr.cell? ⟨gb224, 1, none⟩ = some (.slice A0_1 l0_1.length c0_1) := (blk_cell BK224.out 1).trans rfl
           have hfz31_0 := blk_frozen BK224.out 0
           have hfz31_1 := blk_frozen BK224.out 1
           obtain ⟨Ao32, co32, eo32⟩ := Kd.N_slice HO_11.out
           subst eo32
           have p233 : 0 ≤ ((ji23) : Int) := oA
           have q233 : (ji23) < (t230.length : Int) := oA
           obtain ⟨ad233, A233_0, c233_0, A233_1, c233_1, e233, hx233_0, hx233_1, hl233_0, hi233_0, hl233_1, hi233_1⟩ := at_T71 (Kd.N_reads' HO_11.out).2.2 (ji23) p233 q233
           cases e233
           obtain ⟨ce233, hce233, hMe233, hcc233⟩ := Kd.N_get HO_11.out z71 (ji23) p233 (by first | exact q233 | exact oA | (have e_ := (Kd.N_reads' HO_11.out).1;omega))
           obtain ⟨ua233_0, uc233_0, ua233_1, uc233_1, rfl, ul233_0, ge233_0, ul233_1, ge233_1⟩ := k71_openF hMe233
           have hv233_0 := hcc233 0 _ rfl
           rw [Nat.add_zero] at hv233_0
           replace hv233_0 := Option.some.inj (hv233_0.symm.trans hx233_0)
           injection hv233_0 with hva_ hvn_ hvc_
           rw [hva_] at ge233_0
           rw [hvc_] at ul233_0
           have HL233_0 := Aside0.mk (show Kd.V (Kd.int .i64) 3 _ w.heap.size _ _ ((rd_T71 t230 (ji23)).f0) from Kd.V_mk ul233_0 ge233_0)
           clear hva_ hvn_ hvc_ ge233_0 ul233_0
           have hv233_1 := hcc233 1 _ rfl
           rw [add_field _ _ 1 (by omega)] at hv233_1
           replace hv233_1 := Option.some.inj (hv233_1.symm.trans hx233_1)
           injection hv233_1 with hva_ hvn_ hvc_
           rw [hva_] at ge233_1
           rw [hvc_] at ul233_1
           have HL233_1 := Aside0.mk (show Kd.V (Kd.int .i64) 3 _ w.heap.size _ _ ((rd_T71 t230 (ji23)).f1) from Kd.V_mk ul233_1 ge233_1)
           clear hva_ hvn_ hvc_ ge233_1 ul233_1
           clear hcc233 hce233
           have HR233_0 := Aside0.mk hi233_0
           have HC233_0 := Aside0.mk hl233_0
           clear hi233_0 hl233_0
           have HR233_1 := Aside0.mk hi233_1
           have HC233_1 := Aside0.mk hl233_1
           clear hi233_1 hl233_1
           replace p233 := eq_true p233
           replace q233 := eq_true q233
           go_wp2_with (first | ((with_reducible refine gate_callee (f := 66) rfl ?_);refine goesL_ (some 46) rfl rfl Try.func66 (by kernel_rfl) rfl #[.slice A233_0 ((rd_T71 t230 (ji23)).f0).length c233_0, .int .i64 x12_2] rfl (by (try simp only [List.map_toArray, List.map_cons, List.map_nil]);first | done | (simp only [hji23];rfl) | rfl | (simp only [List.length_drop, List.length_take];rfl)) ?_;(with_reducible refine (spec_l1Has.calls k2 _ _ ((rd_T71 t230 (ji23)).f0) x12_2 false _ ?side1 ?side2 A26.out).mono ?_);(case side1 => exact cP (by repeat (first | (with_reducible exact HR233_0.out) | (with_reducible refine Kd.C_alloc ?_ _) | (with_reducible refine Kd.C_drewN ?_ _) | (with_reducible refine Kd.C_drew ?_) | exact HR233_0.out)));(case side2 => exact HC233_0.out);rintro e w' ⟨rfl, ⟨nd, rfl⟩⟩;refine ⟨_, rfl, ?_⟩) | ((with_reducible refine gate_builtin (b := .append) (xs := #[.tmp 48, .tmp 50]) rfl ?_);at_builtin;refine Kd.R_append (Kd.int .i64) (w0 := w) w.heap.size rfl (.tmp 48) (.tmp 50) 28 3 (.int .i64 0) 8 rfl Try.underlying28 info3 rfl (by decide) (by omega) u10 x10_2 x12_2 [.int .i64 x12_2] (fun _ => True) (fun _ => False) rfl rfl ?aP (fun _ hk => hk.elim) ?aF ?aO ?aB ?aS ?aL ?_;(case aP => exact rfl);(case aB => exact (by exact bB));(case aF => exact (fun _ _ => trivial));(case aO => exact (by exact rP HO_10.out));(case aS => exact (below_size (by exact bB)));(case aL => have := LMc30.out;omega);intro v236 w33 ho hb hg hat;rw [← Ny235.out] at ho;have n0_ := Aside0.mk (Kd.N_afterv (ok := (fun k_ => k_ ≠ gb224)) (by (with_reducible repeat (first | apply Kd.N_alloc | apply Kd.N_drewN | apply Kd.N_drew));exact Kd.N_mono HO_11.out (fun _ hk => ⟨hk.2, hk.1⟩)) hg hat);have n1_ := Aside0.mk (blk_grown (g := gb224) (o := .cells #[.int .i64 a0_0, .slice A0_1 l0_1.length c0_1] 31 (0, 0)) (by exact kP BK224.out) hg (Kd.R_ne HO_10.out BK224.out (by decide)));have n2_ := Aside0.mk (Kd.V_afterv (ok := (fun k_ => some k_ ≠ (.slice (some ad233) t230.length co32 : Value).ownBlock ∧ k_ ≠ gb224)) (by (with_reducible repeat (first | apply Kd.V_alloc | apply Kd.V_drewN | apply Kd.V_drew));exact Kd.V_mono HL233_0.out (fun _ hk => ⟨⟨hk.2, hk.1.2⟩, hk.1.1⟩)) hg hat);have n3_ := Aside0.mk (Kd.V_afterv (ok := (fun k_ => some k_ ≠ (.slice (some ad233) t230.length co32 : Value).ownBlock ∧ k_ ≠ gb224)) (by (with_reducible repeat (first | apply Kd.V_alloc | apply Kd.V_drewN | apply Kd.V_drew));exact Kd.V_mono HL233_1.out (fun _ hk => ⟨⟨hk.2, hk.1.2⟩, hk.1.1⟩)) hg hat);have n4_ := Aside0.mk (hb);have n5_ := Aside0.mk (ho);clear HO_11;clear BK224;clear HL233_0;clear HL233_1;clear HB;clear HO_10;have HO_11 := n0_;have BK224 := n1_;have HL233_0 := n2_;have HL233_1 := n3_;have HB := n4_;have HO237 := n5_;clear n0_ n1_ n2_ n3_ n4_ n5_;clear ho hb hg hat))
           go_roundg k2
           case measure => have := HJ4.out;have := HK2.out;omega
           case rel => exact ⟨(y235), (wrap64 (x12_2 + 1)), (by first | rfl | (simp;done) | (simp [*];done)), H', ⟨by have := HJ4.out;have := HK2.out;omega⟩, ⟨by exact rP HO237.out⟩, ⟨by (with_reducible repeat (first | apply Kd.N_alloc | apply Kd.N_drewN | apply Kd.N_drew));exact Kd.N_mono HO_11.out (fun _ hk => ⟨hk.2, hk.1⟩)⟩, ⟨by exact kP BK224.out⟩, ⟨by exact bB⟩⟩
          ·rw [if_neg c30] at H
           exact absurd H (by simp)
        ·rw [if_neg c25] at H
         exact absurd H (by simp)
       ·rw [if_neg c24] at H
        exact absurd H (by simp)
      ·rw [if_neg c22] at H
       have c22b0 : decide (x12_2 < a0_0) = false := decide_eq_false c22
       clear c22
       simp only [Option.some.injEq, Prod.mk.injEq] at H
       obtain ⟨rfl, rfl⟩ := H
       have hcz34_0 : wr.cell? ⟨gb224, 0, none⟩ = some (.int .i64 a0_0) := (blk_cell BK224.out 0).trans rfl
       have hcz34_1 : wr.cell? ⟨gb224, 1, none⟩ = some (.slice A0_1 l0_1.length c0_1) := (blk_cell BK224.out 1).trans rfl
       have hfz34_0 := blk_frozen BK224.out 0
       have hfz34_1 := blk_frozen BK224.out 1
       go_wp2
       go_ret2
       exact ⟨_, by first | rfl | (simp [errW_none, errW_some] <;> rfl) | (simp [*, errW_none, errW_some] <;> rfl), by exact rP HO_10.out, by exact bB⟩


/-! ### laws_toIntA2: by hand -/
def laws_toIntA2.f (a0_0 : Int) (a0_1 : Int) : Option (Int × Int) := some (a0_0, a0_1)
set_option maxHeartbeats 8000000 in
set_option maxRecDepth 100000 in
theorem laws_toIntA2.calls (a0_0 : Int) (a0_1 : Int) (r1 : Int) (r2 : Int) (w : World) (h : laws_toIntA2.f a0_0 a0_1 = some (r1, r2)) :
  Calls Try.prog 120 #[.agg #[.int .i64 a0_0, .int .i64 a0_1]] w fun e w' => e = .returned (.agg #[.int .i64 r1, .int .i64 r2]) ∧ Below w.heap.size w w' := by
 obtain ⟨rfl, rfl⟩ : a0_0 = r1 ∧ a0_1 = r2 := by simpa [laws_toIntA2.f] using h
 clear h
 go_enter Try.func120, Try.ntmps120
 go_wp2
 refine wp_loop_rounds 3 ?_
 rw [rounds_succ]
 go_wp2
 rw [rounds_succ]
 go_wp2
 rw [rounds_succ]
 go_wp2
 refine bodyPost_ret (v := .agg #[.int .i64 a0_0, .int .i64 a0_1]) (by simp [results, Try.results120, go_sem]) rfl ⟨rfl, ?_⟩
 repeat (first | exact Below.refl _ _ | apply below_alloc | refine below_set ?_ (by simp))

/-! ### laws_toIntA2S: function 67 -/
def laws_toIntA2S.l0 : Nat → List (S119) → List (S119) → Int → Option ((List (S119)))
 | 0, _, _, _ => none
 | k + 1, x0, x3, x4 => if x4 < (x0.length : Int) then (if 0 ≤ x4 then ((laws_toIntA2.f ((rd_T119 x0 x4).f0) ((rd_T119 x0 x4).f1)).bind fun bt244 => (if x4 < (x3.length : Int) then (laws_toIntA2S.l0 k x0 (x3.set (x4 : Int).toNat (⟨bt244.1, bt244.2⟩ : S119)) (wrap64 (x4 + 1))) else (none))) else (none)) else (some x3)
def laws_toIntA2S.f (k : Nat) (l0 : List (S119)) : Option ((List (S119))) := if 0 ≤ (l0.length : Int) then (if ((l0.length : Int) : Int).toNat ≤ 17592186044416 then (laws_toIntA2S.l0 k l0 (List.replicate ((l0.length : Int) : Int).toNat z119) 0) else (none)) else (none)
theorem laws_toIntA2S.mono_l : ∀ k, (∀ y0 y1 y2, LeO (laws_toIntA2S.l0 k y0 y1 y2) (laws_toIntA2S.l0 (k + 1) y0 y1 y2))
 | 0 => fun _ _ _ r h => by simp [laws_toIntA2S.l0] at h
 | k + 1 => by
  have ih0 := laws_toIntA2S.mono_l k
  ·intro y0 y1 y2
   unfold laws_toIntA2S.l0
   repeat' first
   | (with_reducible exact ih0 _ _ _)
   | (with_reducible exact LeO.refl _)
   | (with_reducible exact LeO.none _)
   | (with_reducible refine LeO.ite ?_ ?_)
   | (with_reducible refine LeO.bind ?_ (fun _ => ?_))
   | exact ih0 _ _ _
   | exact LeO.none _
   | refine LeO.ite ?_ ?_
   | refine LeO.bind ?_ (fun _ => ?_)
theorem laws_toIntA2S.mono : ∀ a0 k, LeO (laws_toIntA2S.f k a0) (laws_toIntA2S.f (k + 1) a0) := by
 intro a0 k
 have ih0 := laws_toIntA2S.mono_l k
 unfold laws_toIntA2S.f
 repeat' first
   | (with_reducible exact ih0 _ _ _)
   | (with_reducible exact LeO.refl _)
   | (with_reducible exact LeO.none _)
   | (with_reducible refine LeO.ite ?_ ?_)
   | (with_reducible refine LeO.bind ?_ (fun _ => ?_))
   | exact ih0 _ _ _
   | exact LeO.none _
   | refine LeO.ite ?_ ?_
   | refine LeO.bind ?_ (fun _ => ?_)
set_option maxHeartbeats 8000000 in
set_option maxRecDepth 100000 in
theorem laws_toIntA2S.calls (k : Nat) (A0 : Option Addr) (c0 : Nat) (l0 : List (S119)) (r : List (S119)) (w : World) (hr0 : Kd.C k119 w A0 l0.length l0) (hc0 : l0.length ≤ c0) (h : laws_toIntA2S.f k l0 = some r) :
  Calls Try.prog 67 #[.slice A0 l0.length c0] w fun e w' => ∃ v0_ : Value, e = .returned (v0_) ∧ Kd.R k119 119 w' w.heap.size (fun _ => True) v0_ r ∧ Below w.heap.size w w' := by
 have hu119 := Try.underlying119
 have HR0 := Aside0.mk hr0
 have HC0 := Aside0.mk hc0
 clear hr0 hc0
 have HB := Aside0.mk (Below.refl w.heap.size w)
 have H : (if 0 ≤ (l0.length : Int) then (if ((l0.length : Int) : Int).toNat ≤ 17592186044416 then (laws_toIntA2S.l0 k l0 (List.replicate ((l0.length : Int) : Int).toNat z119) 0) else (none)) else (none)) = some r := h
 clear h
 by_cases c2 : 0 ≤ (l0.length : Int)
 ·rw [if_pos c2] at H
  have c2b0 := eq_true c2
  have c2b1 : decide (0 ≤ (l0.length : Int)) = true := decide_eq_true c2
  clear c2
  by_cases c3 : ((l0.length : Int) : Int).toNat ≤ 17592186044416
  ·rw [if_pos c3] at H
   have c3b0 := eq_true c3
   have c3b1 : decide (((l0.length : Int) : Int).toNat ≤ 17592186044416) = true := decide_eq_true c3
   clear c3
   obtain ⟨y240, hy240⟩ : ∃ y_ : List (S119), y_ = (List.replicate ((l0.length : Int) : Int).toNat z119) := ⟨_, rfl⟩
   replace H : (laws_toIntA2S.l0 k l0 y240 0) = some r := by first | (rw [hy240];with_reducible exact H) | (have H2_ := (Option.bind_some _ _).symm.trans H;rw [hy240];with_reducible exact H2_) | (have H2_ := (Option.bind_some _ _).symm.trans H;with_reducible exact H2_) | with_reducible exact H | (rw [hy240];exact H) | exact H
   have Ny240 := Aside0.mk hy240
   clear hy240
   have H' := Aside0.mk H
   clear H
   go_enter Try.func67, Try.ntmps67
   go_wp2_with (first | ((with_reducible refine gate_dst (N := 7) rfl ?_);refine Kd.R_make k119 _ 119 rfl (N := 7) rfl 22 _ _ rfl (l0.length : Int) rfl rfl Try.underlying22 (.agg #[(.int .i64 0), (.int .i64 0)]) 16 info119 rfl (by decide) (by omega) z119 (ok := fun _ => True) (okp := fun _ => True) (k119_mkM _ _ _ z119 ) (fun _ hk => hk) trivial (oA) (Nat.le_trans (Nat.mul_le_mul_right _ (oA : (l0.length : Int).toNat ≤ 17592186044416)) (by omega)) (Below.refl _ _) (Nat.le_refl _) ?_;intro v241 w4 ho5 hb hg_ hnew_;clear hg_ hnew_;(first | rw [← Ny240.out] at ho5 | (simp only [Int.reduceToNat] at ho5;rw [← Ny240.out] at ho5));have n0_ := Aside0.mk (Kd.R_lower ho5 (below_size (by exact bB)));have n1_ := Aside0.mk (below_step (by exact bB) hb);clear HB;have HO242 := n0_;have HB := n1_;clear n0_ n1_;clear hb ho5))
   go_loopg [4] k (fun kq v4 w' => ∃ (x3_1 : List (S119)) (x4_1 : Int), v4 = .int .i64 x4_1 ∧ Aside0 (laws_toIntA2S.l0 kq l0 x3_1 x4_1 = some r) ∧ Aside0 (kq ≤ k) ∧ Aside0 (Kd.R k119 119 w' w.heap.size (fun _ => True) v241 x3_1) ∧ Aside0 (Below w.heap.size w w'))
   case atStart => exact ⟨(y240), (0), (by first | rfl | (simp;done) | (simp [*];done)), H', ⟨Nat.le_refl _⟩, ⟨by exact rP HO242.out⟩, ⟨by exact bB⟩⟩
   case round =>
    clear H'
    try clear c2
    try clear c2b0
    try clear c2b1
    try clear p2
    try clear c3
    try clear c3b0
    try clear c3b1
    obtain ⟨x3_1, x4_1, rfl, HA, HK1, HO_3, HB⟩ := hrel
    cases gk with
    | zero => exact absurd HA.out (by simp [laws_toIntA2S.l0])
    | succ k1 =>
     have H := HA.out
     clear HA
     simp only [laws_toIntA2S.l0] at H
     by_cases c6 : x4_1 < (l0.length : Int)
     ·rw [if_pos c6] at H
      have c6b0 : decide (x4_1 < (l0.length : Int)) = true := decide_eq_true c6
      clear c6
      by_cases c7 : 0 ≤ x4_1
      ·rw [if_pos c7] at H
       have c7b0 : decide (0 ≤ x4_1) = true := decide_eq_true c7
       clear c7
       replace H := Option.bind_eq_some_iff.mp H
       obtain ⟨⟨t244, t245⟩, A80, H⟩ := H
       replace H : (if x4_1 < (x3_1.length : Int) then (laws_toIntA2S.l0 k1 l0 (x3_1.set (x4_1 : Int).toNat (⟨t244, t245⟩ : S119)) (wrap64 (x4_1 + 1))) else (none)) = some r := H
       have A8 := Aside0.mk A80
       clear A80
       by_cases c9 : x4_1 < (x3_1.length : Int)
       ·rw [if_pos c9] at H
        have c9b0 : decide (x4_1 < (x3_1.length : Int)) = true := decide_eq_true c9
        clear c9
        obtain ⟨y246, hy246⟩ : ∃ y_ : List (S119), y_ = (x3_1.set (x4_1 : Int).toNat (⟨t244, t245⟩ : S119)) := ⟨_, rfl⟩
        replace H : (laws_toIntA2S.l0 k1 l0 y246 (wrap64 (x4_1 + 1))) = some r := by first | (rw [hy246];with_reducible exact H) | (have H2_ := (Option.bind_some _ _).symm.trans H;rw [hy246];with_reducible exact H2_) | (have H2_ := (Option.bind_some _ _).symm.trans H;with_reducible exact H2_) | with_reducible exact H | (rw [hy246];exact H) | exact H
        have Ny246 := Aside0.mk hy246
        clear hy246
        have H' := Aside0.mk H
        clear H
        have p243 : 0 ≤ (x4_1 : Int) := oA
        have q243 : x4_1 < (l0.length : Int) := oA
        obtain ⟨ad243, e243, hx243_0, hx243_1⟩ := at_T119 HR0.out x4_1 p243 q243
        cases e243
        replace hx243_0 := (HB.out.cell (World.block_lt_of_cell? w _ hx243_0)).trans hx243_0
        replace hx243_1 := (HB.out.cell (World.block_lt_of_cell? w _ hx243_1)).trans hx243_1
        replace p243 := eq_true p243
        replace q243 := eq_true q243
        go_wp2_with (first | ((with_reducible refine gate_callee (f := 120) rfl ?_);refine goesL_ (some 20) rfl rfl Try.func120 (by kernel_rfl) rfl #[.agg #[.int .i64 ((rd_T119 l0 x4_1).f0), .int .i64 ((rd_T119 l0 x4_1).f1)]] rfl mM ?_;(with_reducible refine (laws_toIntA2.calls ((rd_T119 l0 x4_1).f0) ((rd_T119 l0 x4_1).f1) t244 t245 _ A8.out).mono ?_);rintro e w11 ⟨rfl, hb⟩;refine ⟨_, rfl, ?_⟩;have n0_ := Aside0.mk (Kd.R_below (by exact rP HO_3.out) hb);have n1_ := Aside0.mk (below_step (by exact bB) hb);clear HO_3;clear HB;have HO_3 := n0_;have HB := n1_;clear n0_ n1_;(try clear hb);(try clear hb2);(try clear hk);(try clear hi);have p10 : 0 ≤ (x4_1 : Int) := oA;have q10 : (x4_1 : Int) < ((x3_1.length : Int) : Int) := oA;obtain ⟨go10, co10, eo10, gb10, gl10, cl10, HG10⟩ := Kd.R_form HO_3.out (by omega);(first | cases eo10 | (injection eo10 with ea_ en_ ec_;(first | subst ea_ | (injection ea_ with ea_;subst ea_));subst ec_;clear en_));have GB10 := Aside0.mk gb10;have GG10 := Aside0.mk HG10;clear gb10 gl10 HG10;obtain ⟨ce10, hcl10, hM10, hcc10, hfr10⟩ := Kd.R_elem HO_3.out z119 (x4_1 : Int) p10 q10;obtain rfl := k119_openM hM10;have hx10_0 : w11.cell? ⟨go10, (x4_1 : Int).toNat * 2, none⟩ = some (.int .i64 ((rd_T119 x3_1 x4_1).f0)) := hcc10 0 _ rfl;have hx10_1 : w11.cell? ⟨go10, (x4_1 : Int).toNat * 2 + 1, none⟩ = some (.int .i64 ((rd_T119 x3_1 x4_1).f1)) := hcc10 1 _ rfl;have hf10_0 : w11.frozen? ⟨go10, (x4_1 : Int).toNat * 2, none⟩ = false := hfr10 0;have hf10_1 : w11.frozen? ⟨go10, (x4_1 : Int).toNat * 2 + 1, none⟩ = false := hfr10 1;clear hcl10 hcc10 hfr10;(try clear hM10);replace p10 := eq_true p10;replace q10 := eq_true q10;have HX12 := Aside0.mk (show Kd.R k119 119 w11 w.heap.size (fun _ => True) (.slice (some ⟨go10, 0, none⟩) x3_1.length co10) x3_1 from (by exact rP HO_3.out));obtain ⟨ce12, hcl12, hM12, hcc12, hfr12⟩ := Kd.R_elem HX12.out z119 (x4_1 : Int) (oA) (by have h_ : (x4_1 : Int) < ((x3_1.length : Int) : Int) := oA;first | exact h_ | (have e_ := (Kd.R_reads' HO_3.out).1;omega) | simpa using h_);obtain rfl := k119_openM hM12;have HP12 := Kd.R_seg HX12.out (x4_1 : Int) (oA) (by have h_ : (x4_1 : Int) < ((x3_1.length : Int) : Int) := oA;first | exact h_ | (have e_ := (Kd.R_reads' HO_3.out).1;omega) | simpa using h_) (seg := [.int .i64 t244, .int .i64 t245]) (j := 0) hcl12 hcc12 (show 2 ≤ 2 from by decide) (x' := (⟨t244, t245⟩ : S119)) (k119_mkM _ _ _ (⟨t244, t245⟩ : S119) ) (fun _ hk => hk);have hx12_0 := hcc12 0 _ rfl;(try simp only [show (k119).sz = 2 from rfl, Nat.mul_one, Nat.add_zero] at hx12_0);have hf12_0 := hfr12 0;(try simp only [show (k119).sz = 2 from rfl, Nat.mul_one, Nat.add_zero] at hf12_0);have hx12_1 := hcc12 1 _ rfl;(try simp only [show (k119).sz = 2 from rfl, Nat.mul_one, Nat.add_zero] at hx12_1);have hf12_1 := hfr12 1;(try simp only [show (k119).sz = 2 from rfl, Nat.mul_one, Nat.add_zero] at hf12_1);clear hcl12 hcc12 hfr12;(try clear hM12)) | ((with_reducible refine gate_store (t := 119) (p := 21) rfl ?_);refine store_event (t := 119) (p := 21) (v := ?vo_w13) (w1 := ((w11.setCell ⟨go10, (x4_1 : Int).toNat * 2, none⟩ (.int .i64 t244)).setCell ⟨go10, (x4_1 : Int).toNat * 2 + 1, none⟩ (.int .i64 t245))) ?hg ?ho ?hn ?hr ?_;(case ho => rfl);(case hg => rfl);(case hn => rfl);(case hr => first | (go_simp;done) | (go_simp;rfl));intro w13 hw;have hg : w11.grownBy w13 (some go10) := (by rw [hw];exact HP12.2);have hp_ : Kd.R k119 119 w13 w.heap.size (fun _ => True) (.slice (some ⟨go10, 0, none⟩) x3_1.length co10) y246 := (by rw [hw, Ny246.out];exact HP12.1);clear HP12;have n0_ := Aside0.mk (hp_);have n1_ := Aside0.mk ((by rw [hw];exact below_set (below_set (HB.out) GB10.out) GB10.out : Below w.heap.size w w13));clear HO_3;clear HB;have HO_3 := n0_;have HB := n1_;clear n0_ n1_;clear hg hw hp_))
        go_roundg k1
        case measure => have := HK1.out;omega
        case rel => exact ⟨(y246), (wrap64 (x4_1 + 1)), (by first | rfl | (simp;done) | (simp [*];done)), H', ⟨by have := HK1.out;omega⟩, ⟨by exact rP HO_3.out⟩, ⟨by exact bB⟩⟩
       ·rw [if_neg c9] at H
        exact absurd H (by simp)
      ·rw [if_neg c7] at H
       exact absurd H (by simp)
     ·rw [if_neg c6] at H
      have c6b0 : decide (x4_1 < (l0.length : Int)) = false := decide_eq_false c6
      clear c6
      obtain rfl := Option.some.inj H
      go_wp2
      go_ret
      exact ⟨_, by first | rfl | (simp [errW_none, errW_some] <;> rfl) | (simp [*, errW_none, errW_some] <;> rfl), by exact rP HO_3.out, by exact bB⟩
  ·rw [if_neg c3] at H
   exact absurd H (by simp)
 ·rw [if_neg c2] at H
  exact absurd H (by simp)


end Go.Proofs.Ytmokkhfmbenleaa.QSavedNodes
