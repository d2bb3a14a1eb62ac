import Derived.Test.YtmokkhfmbenleaaQBurningSets0
import Derived.Test.YtmokkhfmbenleaaQBurningSets4
import Derived.Test.YtmokkhfmbenleaaQBurningSets5
import Derived.Test.YtmokkhfmbenleaaQBurningSets10
import Derived.Test.YtmokkhfmbenleaaQBurningSets11
namespace Go.Proofs.Ytmokkhfmbenleaa.QBurningSets
open Go.RowKit Go.Proofs.YtmokkhfmbenleaaW.PrintWords Go.Proofs.YtmokkhfmbenleaaW.PrintLast Go.Proofs.YtmokkhfmbenleaaW.PrintMore
attribute [local go_sem] max2_int min2_int max_two min_two max_three min_three max_four min_four   -- for this text's walks alone
set_option linter.unusedVariables false
set_option linter.unusedSimpArgs false
/-! ### spec_BurningSets: function 27 -/
mutual
def spec_BurningSets.j0 : Nat → Int → List (List Int) → List (List Int) → Bool → Int → List (S119) → Option ((List (List Int)) × Bool)
 | 0, _, _, _, _, _, _ => none
 | k + 1, x1, x3, x10, x26, x275000, x275001 => if x26 = true then (some (x10, false)) else ((spec_l8Burn.f k x275000 x275001 x1 x3).bind fun t280 => (spec_BurningSets.l0 k x10 t280 0))
def spec_BurningSets.l0 : Nat → List (List Int) → List (S71) → Int → Option ((List (List Int)) × Bool)
 | 0, _, _, _ => none
 | k + 1, x10, x11, x12 => if x12 < (x11.length : Int) then (if 0 ≤ x12 then ((spec_l1Own.f ((rd_T71 x11 x12).f0)).bind fun t284 => (if x10.length < 5864062014805 then (spec_BurningSets.l0 k (x10 ++ [t284]) x11 (wrap64 (x12 + 1))) else (none))) else (none)) else (some (x10, true))
end
def spec_BurningSets.f (k : Nat) (a0_0 : Int) (l0_1 : List (S119)) (a1 : Int) (a2 : Int) (l3 : List (List Int)) : Option ((List (List Int)) × Bool) := (some (([] : List (List Int)) : List (List Int))).bind fun y275 => ((spec_l8Good.f a0_0 l0_1 a1 a2).bind fun t278 => (if t278 = true then ((spec_l8Plan.f k a0_0 l0_1 a1 a2 l3).bind fun t279 => (spec_BurningSets.j0 k a1 l3 y275 (!t279) a0_0 l0_1)) else (spec_BurningSets.j0 k a1 l3 y275 true a0_0 l0_1)))
theorem spec_BurningSets.mono_l : ∀ k, (∀ y0 y1 y2 y3 y4 y5, LeO (spec_BurningSets.j0 k y0 y1 y2 y3 y4 y5) (spec_BurningSets.j0 (k + 1) y0 y1 y2 y3 y4 y5)) ∧ (∀ y0 y1 y2, LeO (spec_BurningSets.l0 k y0 y1 y2) (spec_BurningSets.l0 (k + 1) y0 y1 y2))
 | 0 => ⟨fun _ _ _ _ _ _ r h => by simp [spec_BurningSets.j0] at h, fun _ _ _ r h => by simp [spec_BurningSets.l0] at h⟩
 | k + 1 => by
  obtain ⟨ih0, ih1⟩ := spec_BurningSets.mono_l k
  refine ⟨?_, ?_⟩
  ·intro y0 y1 y2 y3 y4 y5
   unfold spec_BurningSets.j0
   repeat' first
   | (with_reducible exact ih0 _ _ _ _ _ _)
   | (with_reducible exact ih1 _ _ _)
   | (with_reducible exact spec_l8Burn.mono _ _ _ _ _)
   | (with_reducible exact spec_l8Plan.mono _ _ _ _ _ _)
   | (with_reducible exact LeO.refl _)
   | (with_reducible exact LeO.none _)
   | (with_reducible refine LeO.ite ?_ ?_)
   | (with_reducible refine LeO.bind ?_ (fun _ => ?_))
   | exact ih0 _ _ _ _ _ _
   | exact ih1 _ _ _
   | exact spec_l8Burn.mono _ _ _ _ _
   | exact spec_l8Plan.mono _ _ _ _ _ _
   | exact LeO.none _
   | refine LeO.ite ?_ ?_
   | refine LeO.bind ?_ (fun _ => ?_)
  ·intro y0 y1 y2
   unfold spec_BurningSets.l0
   repeat' first
   | (with_reducible exact ih0 _ _ _ _ _ _)
   | (with_reducible exact ih1 _ _ _)
   | (with_reducible exact spec_l8Burn.mono _ _ _ _ _)
   | (with_reducible exact spec_l8Plan.mono _ _ _ _ _ _)
   | (with_reducible exact LeO.refl _)
   | (with_reducible exact LeO.none _)
   | (with_reducible refine LeO.ite ?_ ?_)
   | (with_reducible refine LeO.bind ?_ (fun _ => ?_))
   | exact ih0 _ _ _ _ _ _
   | exact ih1 _ _ _
   | exact spec_l8Burn.mono _ _ _ _ _
   | exact spec_l8Plan.mono _ _ _ _ _ _
   | exact LeO.none _
   | refine LeO.ite ?_ ?_
   | refine LeO.bind ?_ (fun _ => ?_)
theorem spec_BurningSets.mono : ∀ a0 a1 a2 a3 a4 k, LeO (spec_BurningSets.f k a0 a1 a2 a3 a4) (spec_BurningSets.f (k + 1) a0 a1 a2 a3 a4) := by
 intro a0 a1 a2 a3 a4 k
 obtain ⟨ih0, ih1⟩ := spec_BurningSets.mono_l k
 unfold spec_BurningSets.f
 repeat' first
   | (with_reducible exact ih0 _ _ _ _ _ _)
   | (with_reducible exact ih1 _ _ _)
   | (with_reducible exact spec_l8Burn.mono _ _ _ _ _)
   | (with_reducible exact spec_l8Plan.mono _ _ _ _ _ _)
   | (with_reducible exact LeO.refl _)
   | (with_reducible exact LeO.none _)
   | (with_reducible refine LeO.ite ?_ ?_)
   | (with_reducible refine LeO.bind ?_ (fun _ => ?_))
   | exact ih0 _ _ _ _ _ _
   | exact ih1 _ _ _
   | exact spec_l8Burn.mono _ _ _ _ _
   | exact spec_l8Plan.mono _ _ _ _ _ _
   | exact LeO.none _
   | refine LeO.ite ?_ ?_
   | refine LeO.bind ?_ (fun _ => ?_)
set_option maxHeartbeats 8000000 in
set_option maxRecDepth 100000 in
theorem spec_BurningSets.calls (k : Nat) (a0_0 : Int) (A0_1 : Option Addr) (c0_1 : Nat) (l0_1 : List (S119)) (a1 : Int) (a2 : Int) (A3 : Option Addr) (c3 : Nat) (l3 : List (List Int)) (r1 : List (List Int)) (r2 : Bool) (w : World) (hr0_1 : Kd.C k119 w A0_1 l0_1.length l0_1) (hc0_1 : l0_1.length ≤ c0_1) (hr3 : Kd.C (Kd.slice 3 (Kd.int .i64)) w A3 l3.length l3) (hc3 : l3.length ≤ c3) (h : spec_BurningSets.f k a0_0 l0_1 a1 a2 l3 = some (r1, r2)) :
  Calls Try.prog 27 #[.agg #[.int .i64 a0_0, .slice A0_1 l0_1.length c0_1], .int .i64 a1, .int .i64 a2, .slice A3 l3.length c3] w fun e w' => ∃ v0_ : Value, e = .returned (.tuple #[v0_, .bool r2]) ∧ Kd.N (Kd.slice 3 (Kd.int .i64)) 28 w' w.heap.size (fun k_ => (w.heap.size ≤ k_)) v0_ r1 ∧ Below w.heap.size w w' := by
 have hu31 := Try.underlying31
 have HR0_1 := Aside0.mk hr0_1
 have HC0_1 := Aside0.mk hc0_1
 clear hr0_1 hc0_1
 have HR3 := Aside0.mk hr3
 have HC3 := Aside0.mk hc3
 clear hr3 hc3
 have HB := Aside0.mk (Below.refl w.heap.size w)
 have H : ((some (([] : List (List Int)) : List (List Int))).bind fun y275 => ((spec_l8Good.f a0_0 l0_1 a1 a2).bind fun t278 => (if t278 = true then ((spec_l8Plan.f k a0_0 l0_1 a1 a2 l3).bind fun t279 => (spec_BurningSets.j0 k a1 l3 y275 (!t279) a0_0 l0_1)) else (spec_BurningSets.j0 k a1 l3 y275 true a0_0 l0_1)))) = some (r1, r2) := h
 clear h
 obtain ⟨y275, hy275⟩ : ∃ y_ : List (List Int), y_ = (([] : List (List Int))) := ⟨_, rfl⟩
 replace H : ((spec_l8Good.f a0_0 l0_1 a1 a2).bind fun t278 => (if t278 = true then ((spec_l8Plan.f k a0_0 l0_1 a1 a2 l3).bind fun t279 => (spec_BurningSets.j0 k a1 l3 y275 (!t279) a0_0 l0_1)) else (spec_BurningSets.j0 k a1 l3 y275 true a0_0 l0_1))) = some (r1, r2) := by first | (rw [hy275];with_reducible exact H) | (have H2_ := (Option.bind_some _ _).symm.trans H;rw [hy275];with_reducible exact H2_) | (have H2_ := (Option.bind_some _ _).symm.trans H;with_reducible exact H2_) | with_reducible exact H | (rw [hy275];exact H) | exact H
 have Ny275 := Aside0.mk hy275
 clear hy275
 have HC5 := Aside0.mk H
 clear H
 go_enter Try.func27, Try.ntmps27
 go_upto_region 2 with (first | ((with_reducible refine gate_dst (N := 4) rfl ?_);refine box_event ?hg (N := 4) ?hd (cs := #[.int .i64 a0_0, .slice A0_1 l0_1.length c0_1]) (t := 31) ?hr ?_;(case hd => rfl);(case hg => rfl);(case hr => first | (go_simp;done) | (go_simp;rfl));intro gb274 hg w6 hbox hb;have n0_ := Aside0.mk (below_step (by exact bB) hb);have n1_ := Aside0.mk (hbox);have n2_ := Aside0.mk ((by rw [hg];exact (below_size (by exact bB)) : w.heap.size ≤ gb274));have n3_ := Aside0.mk ((by rw [hg];exact (below_size (by exact bB)) : w.heap.size ≤ gb274));clear HB;have HB := n0_;have BK274 := n1_;have GW274 := n2_;have GE274 := n3_;clear n0_ n1_ n2_ n3_;clear hb hbox hg) | ((with_reducible refine gate_dst (N := 13) rfl ?_);refine Kd.N_lit (Kd.slice 3 (Kd.int .i64)) _ 28 ?hg (N' := 13) ?hd (xs := ([] : List (List Int))) (inner := []) (ok := (fun k_ => (w.heap.size ≤ k_) ∧ k_ ≠ gb274)) (okp := (fun k_ => (w.heap.size ≤ k_) ∧ k_ ≠ gb274)) ?hr ?hp (fun _ hk => hk) ((show ∀ k_, w6.heap.size ≤ k_ → (fun k_ => (w.heap.size ≤ k_) ∧ k_ ≠ gb274) k_ from fun k_ hk => ⟨(Nat.le_trans (below_size (by exact bB)) hk), Kd.freshB (g := gb274) (o := .cells #[.int .i64 a0_0, .slice A0_1 l0_1.length c0_1] 31 (0, 0)) (by exact kP BK274.out) k_ hk⟩) _ (Nat.le_refl _)) (Below.refl _ _) (Nat.le_refl _) (by simp) ?_;(case hd => rfl);(case hg => rfl);(case hr => first | (go_simp;done) | (go_simp;rfl));(case hp => exact (Reps.none _ _));intro v276 w7 ho8 hb hg_ hnew_;clear hg_ hnew_;(first | rw [← Ny275.out] at ho8 | (simp only [Int.reduceToNat] at ho8;rw [← Ny275.out] at ho8));have n0_ := Aside0.mk (Kd.N_lower ho8 (below_size (by exact bB)));have n1_ := Aside0.mk (blk_below (g := gb274) (o := .cells #[.int .i64 a0_0, .slice A0_1 l0_1.length c0_1] 31 (0, 0)) (by exact kP BK274.out) hb);have n2_ := Aside0.mk (below_step (by exact bB) hb);clear BK274;clear HB;have HO277 := n0_;have BK274 := n1_;have HB := n2_;clear n0_ n1_ n2_;clear hb ho8))
 (try simp only [Act.put, List.setIfInBounds_toArray, List.set_cons_zero, List.set_cons_succ])
 go_cut [26] (fun v26 wc => ∃ (kq : Nat) (x26_4 : Bool), v26 = .bool x26_4 ∧ Aside0 (spec_BurningSets.j0 kq a1 l3 y275 x26_4 a0_0 l0_1 = some (r1, r2)) ∧ Aside0 (kq ≤ k) ∧ Aside0 (Kd.N (Kd.slice 3 (Kd.int .i64)) 28 wc w.heap.size (fun k_ => (w.heap.size ≤ k_) ∧ k_ ≠ gb274) v276 y275) ∧ Aside0 (wc.heap[gb274]? = some (.cells #[.int .i64 a0_0, (.slice A0_1 l0_1.length c0_1)] 31 (0, 0))) ∧ Aside0 (Below w.heap.size w wc))
 case first =>
  have H := HC5.out
  clear HC5
  replace H := Option.bind_eq_some_iff.mp H
  obtain ⟨t278, A90, H⟩ := H
  replace H : (if t278 = true then ((spec_l8Plan.f k a0_0 l0_1 a1 a2 l3).bind fun t279 => (spec_BurningSets.j0 k a1 l3 y275 (!t279) a0_0 l0_1)) else (spec_BurningSets.j0 k a1 l3 y275 true a0_0 l0_1)) = some (r1, r2) := H
  have A9 := Aside0.mk A90
  clear A90
  by_cases c10 : t278 = true
  ·subst c10
   have H1 : ((spec_l8Plan.f k a0_0 l0_1 a1 a2 l3).bind fun t279 => (spec_BurningSets.j0 k a1 l3 y275 (!t279) a0_0 l0_1)) = some (r1, r2) := by rw [if_pos rfl] at H;exact H
   clear H
   have H := H1
   clear H1
   replace H := Option.bind_eq_some_iff.mp H
   obtain ⟨t279, A110, H⟩ := H
   replace H : (spec_BurningSets.j0 k a1 l3 y275 (!t279) a0_0 l0_1) = some (r1, r2) := H
   have A11 := Aside0.mk A110
   clear A110
   have H' := Aside0.mk H
   clear H
   have hcz12_0 : w7.cell? ⟨gb274, 0, none⟩ = some (.int .i64 a0_0) := (blk_cell BK274.out 0).trans rfl
   have hcz12_1 : w7.cell? ⟨gb274, 1, none⟩ = some (.slice A0_1 l0_1.length c0_1) := (blk_cell BK274.out 1).trans rfl
   have hfz12_0 := blk_frozen BK274.out 0
   have hfz12_1 := blk_frozen BK274.out 1
   go_wp2_with (first | ((with_reducible refine gate_callee (f := 63) rfl ?_);refine goesL_ (some 17) rfl rfl Try.func63 (by kernel_rfl) rfl #[.agg #[.int .i64 a0_0, .slice A0_1 l0_1.length c0_1], .int .i64 a1, .int .i64 a2] rfl mM ?_;(with_reducible refine (spec_l8Good.calls a0_0 _ _ l0_1 a1 a2 true _ ?side1 ?side2 A9.out).mono ?_);(case side1 => exact cP (Kd.C_below HR0_1.out HB.out));(case side2 => exact HC0_1.out);rintro e w13 ⟨rfl, hb⟩;refine ⟨_, rfl, ?_⟩;have n0_ := Aside0.mk (Kd.N_below (by (with_reducible repeat (first | apply Kd.N_alloc | apply Kd.N_drewN | apply Kd.N_drew));exact HO277.out) hb);have n1_ := Aside0.mk (blk_below (g := gb274) (o := .cells #[.int .i64 a0_0, .slice A0_1 l0_1.length c0_1] 31 (0, 0)) (by exact kP BK274.out) hb);have n2_ := Aside0.mk (below_step (by exact bB) hb);clear HO277;clear BK274;clear HB;have HO277 := n0_;have BK274 := n1_;have HB := n2_;clear n0_ n1_ n2_;(try clear hb);(try clear hb2);(try clear hk);(try clear hi);have hcz14_0 : w13.cell? ⟨gb274, 0, none⟩ = some (.int .i64 a0_0) := (blk_cell BK274.out 0).trans rfl;have hcz14_1 : w13.cell? ⟨gb274, 1, none⟩ = some (.slice A0_1 l0_1.length c0_1) := (blk_cell BK274.out 1).trans rfl;have hfz14_0 := blk_frozen BK274.out 0;have hfz14_1 := blk_frozen BK274.out 1) | (go_at_call 64;(with_reducible refine (spec_l8Plan.calls k a0_0 _ _ l0_1 a1 a2 _ _ l3 t279 _ ?side1 ?side2 ?side3 ?side4 A11.out).mono ?_);(case side1 => exact cP (Kd.C_below HR0_1.out HB.out));(case side2 => exact HC0_1.out);(case side3 => exact cP (Kd.C_below HR3.out HB.out));(case side4 => exact HC3.out);rintro e w15 ⟨rfl, hb⟩;have n0_ := Aside0.mk (Kd.N_below (by (with_reducible repeat (first | apply Kd.N_alloc | apply Kd.N_drewN | apply Kd.N_drew));exact HO277.out) hb);have n1_ := Aside0.mk (blk_below (g := gb274) (o := .cells #[.int .i64 a0_0, .slice A0_1 l0_1.length c0_1] 31 (0, 0)) (by exact kP BK274.out) hb);have n2_ := Aside0.mk (below_step (by exact bB) hb);clear HO277;clear BK274;clear HB;have HO277 := n0_;have BK274 := n1_;have HB := n2_;clear n0_ n1_ n2_;(try clear hb);(try clear hb2);(try clear hk);(try clear hi)))
   go_meet
   case rel => exact ⟨_, (!t279), (by first | rfl | (simp;done) | (simp [*];done)), H', ⟨by first | omega | exact Nat.le_refl _⟩, ⟨by (with_reducible repeat (first | apply Kd.N_alloc | apply Kd.N_drewN | apply Kd.N_drew));exact HO277.out⟩, ⟨by exact kP BK274.out⟩, ⟨by exact bB⟩⟩
  ·replace c10 := Bool.eq_false_iff.mpr c10
   subst c10
   have H1 : (spec_BurningSets.j0 k a1 l3 y275 true a0_0 l0_1) = some (r1, r2) := by rw [if_neg (show ¬ (false = true) by decide)] at H;exact H
   clear H
   have H := H1
   clear H1
   have H' := Aside0.mk H
   clear H
   have hcz16_0 : w7.cell? ⟨gb274, 0, none⟩ = some (.int .i64 a0_0) := (blk_cell BK274.out 0).trans rfl
   have hcz16_1 : w7.cell? ⟨gb274, 1, none⟩ = some (.slice A0_1 l0_1.length c0_1) := (blk_cell BK274.out 1).trans rfl
   have hfz16_0 := blk_frozen BK274.out 0
   have hfz16_1 := blk_frozen BK274.out 1
   go_wp2_with (first | ((with_reducible refine gate_callee (f := 63) rfl ?_);refine goesL_ (some 17) rfl rfl Try.func63 (by kernel_rfl) rfl #[.agg #[.int .i64 a0_0, .slice A0_1 l0_1.length c0_1], .int .i64 a1, .int .i64 a2] rfl mM ?_;(with_reducible refine (spec_l8Good.calls a0_0 _ _ l0_1 a1 a2 false _ ?side1 ?side2 A9.out).mono ?_);(case side1 => exact cP (Kd.C_below HR0_1.out HB.out));(case side2 => exact HC0_1.out);rintro e w17 ⟨rfl, hb⟩;refine ⟨_, rfl, ?_⟩;have n0_ := Aside0.mk (Kd.N_below (by (with_reducible repeat (first | apply Kd.N_alloc | apply Kd.N_drewN | apply Kd.N_drew));exact HO277.out) hb);have n1_ := Aside0.mk (blk_below (g := gb274) (o := .cells #[.int .i64 a0_0, .slice A0_1 l0_1.length c0_1] 31 (0, 0)) (by exact kP BK274.out) hb);have n2_ := Aside0.mk (below_step (by exact bB) hb);clear HO277;clear BK274;clear HB;have HO277 := n0_;have BK274 := n1_;have HB := n2_;clear n0_ n1_ n2_;(try clear hb);(try clear hb2);(try clear hk);(try clear hi)))
   go_meet
   case rel => exact ⟨_, (true), (by first | rfl | (simp;done) | (simp [*];done)), H', ⟨by first | omega | exact Nat.le_refl _⟩, ⟨by (with_reducible repeat (first | apply Kd.N_alloc | apply Kd.N_drewN | apply Kd.N_drew));exact HO277.out⟩, ⟨by exact kP BK274.out⟩, ⟨by exact bB⟩⟩
 case rest =>
  clear HC5
  try clear c1
  try clear c2
  try clear p2
  try clear c3
  try clear c6
  try clear c10
  try clear hcz12_0
  try clear hcz12_1
  try clear hcz14_0
  try clear hcz14_1
  try clear hcz16_0
  try clear hcz16_1
  try clear hfz12_0
  try clear hfz12_1
  try clear hfz14_0
  try clear hfz14_1
  try clear hfz16_0
  try clear hfz16_1
  obtain ⟨kq, x26_4, rfl, HA, HJ4, HO_10, BK274, HB⟩ := hcut
  cases kq with
  | zero => exact absurd HA.out (by simp [spec_BurningSets.j0])
  | succ kj4 =>
   have H := HA.out
   clear HA
   simp only [spec_BurningSets.j0] at H
   by_cases c18 : x26_4 = true
   ·subst c18
    have H1 : (some (y275, false)) = some (r1, r2) := by rw [if_pos rfl] at H;exact H
    clear H
    have H := H1
    clear H1
    simp only [Option.some.injEq, Prod.mk.injEq] at H
    obtain ⟨rfl, rfl⟩ := H
    go_wp2
    go_ret2
    exact ⟨_, by first | rfl | (simp [errW_none, errW_some] <;> rfl) | (simp [*, errW_none, errW_some] <;> rfl), by (with_reducible repeat (first | apply Kd.N_alloc | apply Kd.N_drewN | apply Kd.N_drew));exact Kd.N_mono HO_10.out (fun _ hk => hk.1), by exact bB⟩
   ·replace c18 := Bool.eq_false_iff.mpr c18
    subst c18
    have H1 : ((spec_l8Burn.f kj4 a0_0 l0_1 a1 l3).bind fun t280 => (spec_BurningSets.l0 kj4 y275 t280 0)) = some (r1, r2) := by rw [if_neg (show ¬ (false = true) by decide)] at H;exact H
    clear H
    have H := H1
    clear H1
    replace H := Option.bind_eq_some_iff.mp H
    obtain ⟨t280, A190, H⟩ := H
    replace H : (spec_BurningSets.l0 kj4 y275 t280 0) = some (r1, r2) := H
    have A19 := Aside0.mk A190
    clear A190
    have H' := Aside0.mk H
    clear H
    have hcz20_0 : wc.cell? ⟨gb274, 0, none⟩ = some (.int .i64 a0_0) := (blk_cell BK274.out 0).trans rfl
    have hcz20_1 : wc.cell? ⟨gb274, 1, none⟩ = some (.slice A0_1 l0_1.length c0_1) := (blk_cell BK274.out 1).trans rfl
    have hfz20_0 := blk_frozen BK274.out 0
    have hfz20_1 := blk_frozen BK274.out 1
    go_wp2_with (first | ((with_reducible refine gate_callee (f := 65) rfl ?_);refine goesL_ (some 31) rfl rfl Try.func65 (by kernel_rfl) rfl #[.agg #[.int .i64 a0_0, .slice A0_1 l0_1.length c0_1], .int .i64 a1, .slice A3 l3.length c3] rfl mM ?_;(with_reducible refine (spec_l8Burn.calls kj4 a0_0 _ _ l0_1 a1 _ _ l3 t280 _ ?side1 ?side2 ?side3 ?side4 A19.out).mono ?_);(case side1 => exact cP (Kd.C_below HR0_1.out HB.out));(case side2 => exact HC0_1.out);(case side3 => exact cP (Kd.C_below HR3.out HB.out));(case side4 => exact HC3.out);rintro e w21 ⟨v281, rfl, ho0, hb⟩;refine ⟨_, rfl, ?_⟩;have n0_ := Aside0.mk (Kd.N_elder' (by (with_reducible repeat (first | apply Kd.N_alloc | apply Kd.N_drewN | apply Kd.N_drew));exact HO_10.out) (Kd.N_base ho0) hb);have n1_ := Aside0.mk (Kd.N_lower (Kd.N_mono (ok' := fun k_ => (w.heap.size ≤ k_) ∧ some k_ ≠ (v276 : Value).ownBlock ∧ k_ ≠ gb274) ho0 (fun k_ hk_ => ⟨(Nat.le_trans (below_size (by exact bB)) hk_), (Kd.fresh' (Kd.N_lt (by (with_reducible repeat (first | apply Kd.N_alloc | apply Kd.N_drewN | apply Kd.N_drew));exact HO_10.out)) k_ hk_), (Kd.freshB (g := gb274) (o := .cells #[.int .i64 a0_0, .slice A0_1 l0_1.length c0_1] 31 (0, 0)) (by exact kP BK274.out) k_ hk_)⟩)) (below_size (by exact bB)));have n2_ := Aside0.mk (blk_below (g := gb274) (o := .cells #[.int .i64 a0_0, .slice A0_1 l0_1.length c0_1] 31 (0, 0)) (by exact kP BK274.out) hb);have n3_ := Aside0.mk (below_step (by exact bB) hb);clear HO_10;clear BK274;clear HB;have HO_10 := n0_;have HO282 := n1_;have BK274 := n2_;have HB := n3_;clear n0_ n1_ n2_ n3_;(try clear hb);(try clear hb2);(try clear hk);(try clear hi);(try clear ho0)))
    go_loopg [10, 12] kj4 (fun kq v10 v12 w' => ∃ (x10_2 : List (List Int)) (x12_2 : Int), v12 = .int .i64 x12_2 ∧ Aside0 (spec_BurningSets.l0 kq x10_2 t280 x12_2 = some (r1, r2)) ∧ Aside0 (kq ≤ kj4) ∧ Aside0 (Kd.N (Kd.slice 3 (Kd.int .i64)) 28 w' w.heap.size (fun k_ => (w.heap.size ≤ k_) ∧ some k_ ≠ (v281 : Value).ownBlock ∧ k_ ≠ gb274) v10 x10_2) ∧ Aside0 (Kd.N k71 71 w' w.heap.size (fun k_ => (w.heap.size ≤ k_) ∧ some k_ ≠ (v10 : Value).ownBlock ∧ k_ ≠ gb274) v281 t280) ∧ Aside0 (w'.heap[gb274]? = some (.cells #[.int .i64 a0_0, (.slice A0_1 l0_1.length c0_1)] 31 (0, 0))) ∧ Aside0 (Below w.heap.size w w'))
    case atStart => exact ⟨(y275), (0), (by first | rfl | (simp;done) | (simp [*];done)), H', ⟨Nat.le_refl _⟩, ⟨by (with_reducible repeat (first | apply Kd.N_alloc | apply Kd.N_drewN | apply Kd.N_drew));exact Kd.N_mono HO_10.out (fun _ hk => ⟨hk.1.1, ⟨hk.2, hk.1.2⟩⟩)⟩, ⟨by (with_reducible repeat (first | apply Kd.N_alloc | apply Kd.N_drewN | apply Kd.N_drew));exact HO282.out⟩, ⟨by exact kP BK274.out⟩, ⟨by exact bB⟩⟩
    case round =>
     clear H'
     try clear c1
     try clear c2
     try clear p2
     try clear c3
     try clear c6
     try clear c10
     try clear c18
     try clear hcz12_0
     try clear hcz12_1
     try clear hcz14_0
     try clear hcz14_1
     try clear hcz16_0
     try clear hcz16_1
     try clear hcz20_0
     try clear hcz20_1
     try clear hfz12_0
     try clear hfz12_1
     try clear hfz14_0
     try clear hfz14_1
     try clear hfz16_0
     try clear hfz16_1
     try clear hfz20_0
     try clear hfz20_1
     try clear p2
     obtain ⟨x10_2, x12_2, rfl, HA, HK2, HO_10, HO_11, BK274, HB⟩ := hrel
     cases gk with
     | zero => exact absurd HA.out (by simp [spec_BurningSets.l0])
     | succ k2 =>
      have H := HA.out
      clear HA
      simp only [spec_BurningSets.l0] at H
      by_cases c22 : x12_2 < (t280.length : Int)
      ·rw [if_pos c22] at H
       have c22b0 : decide (x12_2 < (t280.length : Int)) = true := decide_eq_true c22
       clear c22
       by_cases c23 : 0 ≤ x12_2
       ·rw [if_pos c23] at H
        have c23b0 : decide (0 ≤ x12_2) = true := decide_eq_true c23
        clear c23
        replace H := Option.bind_eq_some_iff.mp H
        obtain ⟨t284, A240, H⟩ := H
        replace H : (if x10_2.length < 5864062014805 then (spec_BurningSets.l0 k2 (x10_2 ++ [t284]) t280 (wrap64 (x12_2 + 1))) else (none)) = some (r1, r2) := H
        have A24 := Aside0.mk A240
        clear A240
        by_cases c25 : x10_2.length < 5864062014805
        ·rw [if_pos c25] at H
         have LMc25 := Aside0.mk c25
         clear c25
         obtain ⟨y287, hy287⟩ : ∃ y_ : List (List Int), y_ = (x10_2 ++ [t284]) := ⟨_, rfl⟩
         replace H : (spec_BurningSets.l0 k2 y287 t280 (wrap64 (x12_2 + 1))) = some (r1, r2) := by first | (rw [hy287];with_reducible exact H) | (have H2_ := (Option.bind_some _ _).symm.trans H;rw [hy287];with_reducible exact H2_) | (have H2_ := (Option.bind_some _ _).symm.trans H;with_reducible exact H2_) | with_reducible exact H | (rw [hy287];exact H) | exact H
         have Ny287 := Aside0.mk hy287
         clear hy287
         have H' := Aside0.mk H
         clear H
         obtain ⟨Ao26, co26, eo26⟩ := Kd.N_slice HO_11.out
         subst eo26
         have p283 : 0 ≤ (x12_2 : Int) := oA
         have q283 : x12_2 < (t280.length : Int) := oA
         obtain ⟨ad283, A283_0, c283_0, A283_1, c283_1, e283, hx283_0, hx283_1, hl283_0, hi283_0, hl283_1, hi283_1⟩ := at_T71 (Kd.N_reads' HO_11.out).2.2 x12_2 p283 q283
         cases e283
         obtain ⟨ce283, hce283, hMe283, hcc283⟩ := Kd.N_get HO_11.out z71 x12_2 p283 (by first | exact q283 | exact oA | (have e_ := (Kd.N_reads' HO_11.out).1;omega))
         obtain ⟨ua283_0, uc283_0, ua283_1, uc283_1, rfl, ul283_0, ge283_0, ul283_1, ge283_1⟩ := k71_openF hMe283
         have hv283_0 := hcc283 0 _ rfl
         rw [Nat.add_zero] at hv283_0
         replace hv283_0 := Option.some.inj (hv283_0.symm.trans hx283_0)
         injection hv283_0 with hva_ hvn_ hvc_
         rw [hva_] at ge283_0
         rw [hvc_] at ul283_0
         have HL283_0 := Aside0.mk (show Kd.V (Kd.int .i64) 3 _ w.heap.size _ _ ((rd_T71 t280 x12_2).f0) from Kd.V_mk ul283_0 ge283_0)
         clear hva_ hvn_ hvc_ ge283_0 ul283_0
         have hv283_1 := hcc283 1 _ rfl
         rw [add_field _ _ 1 (by omega)] at hv283_1
         replace hv283_1 := Option.some.inj (hv283_1.symm.trans hx283_1)
         injection hv283_1 with hva_ hvn_ hvc_
         rw [hva_] at ge283_1
         rw [hvc_] at ul283_1
         have HL283_1 := Aside0.mk (show Kd.V (Kd.int .i64) 3 _ w.heap.size _ _ ((rd_T71 t280 x12_2).f1) from Kd.V_mk ul283_1 ge283_1)
         clear hva_ hvn_ hvc_ ge283_1 ul283_1
         clear hcc283 hce283
         have HR283_0 := Aside0.mk hi283_0
         have HC283_0 := Aside0.mk hl283_0
         clear hi283_0 hl283_0
         have HR283_1 := Aside0.mk hi283_1
         have HC283_1 := Aside0.mk hl283_1
         clear hi283_1 hl283_1
         replace p283 := eq_true p283
         replace q283 := eq_true q283
         go_wp2_with (first | ((with_reducible refine gate_callee (f := 78) rfl ?_);refine goesL_ (some 44) rfl rfl Try.func78 (by kernel_rfl) rfl #[.slice A283_0 ((rd_T71 t280 x12_2).f0).length c283_0] rfl mM ?_;(with_reducible refine (spec_l1Own.calls _ _ ((rd_T71 t280 x12_2).f0) t284 _ ?side1 ?side2 A24.out).mono ?_);(case side1 => exact cP (by repeat (first | (with_reducible exact HR283_0.out) | (with_reducible refine Kd.C_alloc ?_ _) | (with_reducible refine Kd.C_drewN ?_ _) | (with_reducible refine Kd.C_drew ?_) | exact HR283_0.out)));(case side2 => exact HC283_0.out);rintro e w27 ⟨v285, rfl, ho0, hb⟩;refine ⟨_, rfl, ?_⟩;have n0_ := Aside0.mk (Kd.N_elder' (by (with_reducible repeat (first | apply Kd.N_alloc | apply Kd.N_drewN | apply Kd.N_drew));exact HO_10.out) (Kd.R_base ho0) hb);have n1_ := Aside0.mk (Kd.N_elder' (by (with_reducible repeat (first | apply Kd.N_alloc | apply Kd.N_drewN | apply Kd.N_drew));exact HO_11.out) (Kd.R_base ho0) hb);have n2_ := Aside0.mk (Kd.V_elder' (by (with_reducible repeat (first | apply Kd.V_alloc | apply Kd.V_drewN | apply Kd.V_drew));exact HL283_0.out) (Kd.R_base ho0) hb);have n3_ := Aside0.mk (Kd.V_elder' (by (with_reducible repeat (first | apply Kd.V_alloc | apply Kd.V_drewN | apply Kd.V_drew));exact HL283_1.out) (Kd.R_base ho0) hb);have n4_ := Aside0.mk (Kd.R_lower (Kd.R_newM (M := fun k_ => (w.heap.size ≤ k_)) ho0 (below_size (by exact bB)) (fun k_ h_ => h_)) (below_size (by exact bB)));have n5_ := Aside0.mk (blk_below (g := gb274) (o := .cells #[.int .i64 a0_0, .slice A0_1 l0_1.length c0_1] 31 (0, 0)) (by exact kP BK274.out) hb);have n6_ := Aside0.mk (Kd.C_below (by repeat (first | (with_reducible exact HR283_0.out) | (with_reducible refine Kd.C_alloc ?_ _) | (with_reducible refine Kd.C_drewN ?_ _) | (with_reducible refine Kd.C_drew ?_) | exact HR283_0.out)) hb);have n7_ := Aside0.mk (Kd.C_below (by repeat (first | (with_reducible exact HR283_1.out) | (with_reducible refine Kd.C_alloc ?_ _) | (with_reducible refine Kd.C_drewN ?_ _) | (with_reducible refine Kd.C_drew ?_) | exact HR283_1.out)) hb);have n8_ := Aside0.mk (below_step (by exact bB) hb);clear HO_10;clear HO_11;clear HL283_0;clear HL283_1;clear BK274;clear HR283_0;clear HR283_1;clear HB;have HO_10 := n0_;have HO_11 := n1_;have HL283_0 := n2_;have HL283_1 := n3_;have HO286 := n4_;have BK274 := n5_;have HR283_0 := n6_;have HR283_1 := n7_;have HB := n8_;clear n0_ n1_ n2_ n3_ n4_ n5_ n6_ n7_ n8_;(try clear hb);(try clear hb2);(try clear hk);(try clear hi);(try clear ho0);obtain ⟨Ao29, co29, eo29⟩ := Kd.R_slice HO286.out;subst eo29) | ((with_reducible refine gate_builtin (b := .append) (xs := #[.tmp 38, .tmp 45]) rfl ?_);at_builtin;refine Kd.N_append (Kd.slice 3 (Kd.int .i64)) (w0 := w) w.heap.size rfl (.tmp 38) (.tmp 45) 25 28 (.slice none 0 0) 24 rfl Try.underlying25 info28 rfl (by decide) (by omega) u10 x10_2 t284 [.slice Ao29 t284.length co29] (fun k_ => (w.heap.size ≤ k_) ∧ some k_ ≠ (.slice (some ad283) t280.length co26 : Value).ownBlock ∧ k_ ≠ gb274) (fun k_ => ((fun k_ => (w.heap.size ≤ k_) ∧ some k_ ≠ (.slice (some ad283) t280.length co26 : Value).ownBlock ∧ k_ ≠ gb274)) k_ ∧ some k_ ≠ (u10 : Value).ownBlock) rfl rfl ?aP (fun _ hk => hk) ?aF ?aO ?aB ?aS ?aL ?_;(case aP => exact (Kd.FK_slice_mk (Kd.R_reads' (Kd.R_mono (ok' := (fun k_ => ((fun k_ => (w.heap.size ≤ k_) ∧ some k_ ≠ (.slice (some ad283) t280.length co26 : Value).ownBlock ∧ k_ ≠ gb274)) k_ ∧ some k_ ≠ (u10 : Value).ownBlock)) (Kd.R_types (Kd.R_apart' (Kd.R_apart' (HO286.out) (Kd.N_typed HO_11.out) (by decide)) (Kd.N_typed HO_10.out) (by decide)) BK274.out (by decide)) (fun k_ hk => ⟨⟨hk.1.1.1.1, ⟨hk.1.1.2, hk.2⟩⟩, hk.1.2⟩))).2.1 (Kd.R_F (Kd.R_mono (ok' := (fun k_ => ((fun k_ => (w.heap.size ≤ k_) ∧ some k_ ≠ (.slice (some ad283) t280.length co26 : Value).ownBlock ∧ k_ ≠ gb274)) k_ ∧ some k_ ≠ (u10 : Value).ownBlock)) (Kd.R_types (Kd.R_apart' (Kd.R_apart' (HO286.out) (Kd.N_typed HO_11.out) (by decide)) (Kd.N_typed HO_10.out) (by decide)) BK274.out (by decide)) (fun k_ hk => ⟨⟨hk.1.1.1.1, ⟨hk.1.1.2, hk.2⟩⟩, hk.1.2⟩)))));(case aB => exact (by exact bB));(case aF => exact (fun k_ hk => ⟨(Nat.le_trans (below_size (by exact bB)) hk), Kd.fresh' (Kd.N_lt (by (with_reducible repeat (first | apply Kd.N_alloc | apply Kd.N_drewN | apply Kd.N_drew));exact HO_11.out)) k_ hk, Kd.freshB (g := gb274) (o := .cells #[.int .i64 a0_0, .slice A0_1 l0_1.length c0_1] 31 (0, 0)) (by exact kP BK274.out) k_ hk⟩));(case aO => exact (by (with_reducible repeat (first | apply Kd.N_alloc | apply Kd.N_drewN | apply Kd.N_drew));exact Kd.N_mono HO_10.out (fun _ hk => ⟨hk.1.1, ⟨hk.1.2.1, hk.1.2.2⟩⟩)));(case aS => exact (below_size (by exact bB)));(case aL => have := LMc25.out;omega);intro v288 w28 ho hb hg hat;rw [← Ny287.out] at ho;have n0_ := Aside0.mk (Kd.N_afterv (ok := (fun k_ => (w.heap.size ≤ k_) ∧ some k_ ≠ (.slice Ao29 t284.length co29 : Value).ownBlock ∧ k_ ≠ gb274)) (by (with_reducible repeat (first | apply Kd.N_alloc | apply Kd.N_drewN | apply Kd.N_drew));exact Kd.N_mono HO_11.out (fun _ hk => ⟨⟨hk.1.1, ⟨hk.2, hk.1.2.2⟩⟩, hk.1.2.1⟩)) hg hat);have n1_ := Aside0.mk (blk_grown (g := gb274) (o := .cells #[.int .i64 a0_0, .slice A0_1 l0_1.length c0_1] 31 (0, 0)) (by exact kP BK274.out) hg (Kd.N_ne HO_10.out BK274.out (by decide)));have n2_ := Aside0.mk (Kd.V_afterv (ok := (fun k_ => (w.heap.size ≤ k_) ∧ some k_ ≠ (.slice (some ad283) t280.length co26 : Value).ownBlock ∧ some k_ ≠ (.slice Ao29 t284.length co29 : Value).ownBlock ∧ k_ ≠ gb274)) (by (with_reducible repeat (first | apply Kd.V_alloc | apply Kd.V_drewN | apply Kd.V_drew));exact Kd.V_mono HL283_0.out (fun _ hk => ⟨⟨hk.1.1.1, ⟨hk.1.2, ⟨hk.2, hk.1.1.2.2⟩⟩⟩, hk.1.1.2.1⟩)) hg hat);have n3_ := Aside0.mk (Kd.V_afterv (ok := (fun k_ => (w.heap.size ≤ k_) ∧ some k_ ≠ (.slice (some ad283) t280.length co26 : Value).ownBlock ∧ some k_ ≠ (.slice Ao29 t284.length co29 : Value).ownBlock ∧ k_ ≠ gb274)) (by (with_reducible repeat (first | apply Kd.V_alloc | apply Kd.V_drewN | apply Kd.V_drew));exact Kd.V_mono HL283_1.out (fun _ hk => ⟨⟨hk.1.1.1, ⟨hk.1.2, ⟨hk.2, hk.1.1.2.2⟩⟩⟩, hk.1.1.2.1⟩)) hg hat);have n4_ := Aside0.mk (hb);have n5_ := Aside0.mk (ho);clear HO_11;clear BK274;clear HL283_0;clear HL283_1;clear HB;clear HO_10;clear HO286;have HO_11 := n0_;have BK274 := n1_;have HL283_0 := n2_;have HL283_1 := n3_;have HB := n4_;have HO289 := n5_;clear n0_ n1_ n2_ n3_ n4_ n5_;clear ho hb hg hat))
         go_roundg k2
         case measure => have := HJ4.out;have := HK2.out;omega
         case rel => exact ⟨(y287), (wrap64 (x12_2 + 1)), (by first | rfl | (simp;done) | (simp [*];done)), H', ⟨by have := HJ4.out;have := HK2.out;omega⟩, ⟨by (with_reducible repeat (first | apply Kd.N_alloc | apply Kd.N_drewN | apply Kd.N_drew));exact HO289.out⟩, ⟨by (with_reducible repeat (first | apply Kd.N_alloc | apply Kd.N_drewN | apply Kd.N_drew));exact Kd.N_mono HO_11.out (fun _ hk => ⟨hk.1.1, ⟨hk.2, hk.1.2.2⟩⟩)⟩, ⟨by exact kP BK274.out⟩, ⟨by exact bB⟩⟩
        ·rw [if_neg c25] at H
         exact absurd H (by simp)
       ·rw [if_neg c23] at H
        exact absurd H (by simp)
      ·rw [if_neg c22] at H
       have c22b0 : decide (x12_2 < (t280.length : Int)) = false := decide_eq_false c22
       clear c22
       simp only [Option.some.injEq, Prod.mk.injEq] at H
       obtain ⟨rfl, rfl⟩ := H
       obtain ⟨Ao30, co30, eo30⟩ := Kd.N_slice HO_11.out
       subst eo30
       go_wp2
       go_ret2
       exact ⟨_, by first | rfl | (simp [errW_none, errW_some] <;> rfl) | (simp [*, errW_none, errW_some] <;> rfl), by (with_reducible repeat (first | apply Kd.N_alloc | apply Kd.N_drewN | apply Kd.N_drew));exact Kd.N_mono HO_10.out (fun _ hk => hk.1), by exact bB⟩


/-! ### impl_within: function 82 -/
def impl_within.f (a0 : Int) (a1 : Int) (a2 : Int) : Option (Bool) := if a0 ≥ a1 then (some (decide (a0 ≤ a2))) else (some false)
set_option maxHeartbeats 8000000 in
set_option maxRecDepth 100000 in
theorem impl_within.calls (a0 : Int) (a1 : Int) (a2 : Int) (r : Bool) (w : World) (h : impl_within.f a0 a1 a2 = some r) :
  Calls Try.prog 82 #[.int .i64 a0, .int .i64 a1, .int .i64 a2] w fun e w' => e = .returned (.bool r) ∧ Drawn0 w w' := by
 have H : (if a0 ≥ a1 then (some (decide (a0 ≤ a2))) else (some false)) = some r := h
 clear h
 by_cases c4 : a0 ≥ a1
 ·rw [if_pos c4] at H
  have c4b0 : decide (a1 ≤ a0) = true := decide_eq_true c4
  clear c4
  obtain rfl := Option.some.inj H
  go_enter Try.func82, Try.ntmps82
  go_wp2
  go_ret
  exact ⟨by first | rfl | (simp;done) | (simp [*];done), by repeat (first | exact Drawn0.refl _ | apply Drawn0.step)⟩
 ·rw [if_neg c4] at H
  have c4b0 : decide (a1 ≤ a0) = false := decide_eq_false c4
  clear c4
  obtain rfl := Option.some.inj H
  go_enter Try.func82, Try.ntmps82
  go_wp2
  go_ret
  exact ⟨by first | rfl | (simp;done) | (simp [*];done), by repeat (first | exact Drawn0.refl _ | apply Drawn0.step)⟩


/-! ### cmp_isNaN_int: function 157 -/
def cmp_isNaN_int.f (a0 : Int) : Option (Bool) := some (a0 != a0)
set_option maxHeartbeats 8000000 in
set_option maxRecDepth 100000 in
theorem cmp_isNaN_int.calls (a0 : Int) (r : Bool) (w : World) (h : cmp_isNaN_int.f a0 = some r) :
  Calls Try.prog 157 #[.int .i64 a0] w fun e w' => e = .returned (.bool r) ∧ Drawn0 w w' := by
 have H : (some (a0 != a0)) = some r := h
 clear h
 obtain rfl := Option.some.inj H
 go_enter Try.func157, Try.ntmps157
 go_wp2
 go_ret
 exact ⟨by first | rfl | (simp;done) | (simp [*];done), by repeat (first | exact Drawn0.refl _ | apply Drawn0.step)⟩


/-! ### cmp_Compare_int: function 150 -/
def cmp_Compare_int.f (a0 : Int) (a1 : Int) : Option (Int) := (cmp_isNaN_int.f a0).bind fun t290 => ((cmp_isNaN_int.f a1).bind fun t291 => (if t290 = true then (if t291 = true then (some 0) else (some (-1))) else (if t291 = true then (some 1) else (if a0 < a1 then (some (-1)) else (if a0 > a1 then (some 1) else (some 0))))))
set_option maxHeartbeats 8000000 in
set_option maxRecDepth 100000 in
theorem cmp_Compare_int.calls (a0 : Int) (a1 : Int) (r : Int) (w : World) (h : cmp_Compare_int.f a0 a1 = some r) :
  Calls Try.prog 150 #[.int .i64 a0, .int .i64 a1] w fun e w' => e = .returned (.int .i64 r) ∧ Drawn0 w w' := by
 have H : ((cmp_isNaN_int.f a0).bind fun t290 => ((cmp_isNaN_int.f a1).bind fun t291 => (if t290 = true then (if t291 = true then (some 0) else (some (-1))) else (if t291 = true then (some 1) else (if a0 < a1 then (some (-1)) else (if a0 > a1 then (some 1) else (some 0))))))) = some r := h
 clear h
 replace H := Option.bind_eq_some_iff.mp H
 obtain ⟨t290, A30, H⟩ := H
 replace H : ((cmp_isNaN_int.f a1).bind fun t291 => (if t290 = true then (if t291 = true then (some 0) else (some (-1))) else (if t291 = true then (some 1) else (if a0 < a1 then (some (-1)) else (if a0 > a1 then (some 1) else (some 0)))))) = some r := H
 have A3 := Aside0.mk A30
 clear A30
 replace H := Option.bind_eq_some_iff.mp H
 obtain ⟨t291, A40, H⟩ := H
 replace H : (if t290 = true then (if t291 = true then (some 0) else (some (-1))) else (if t291 = true then (some 1) else (if a0 < a1 then (some (-1)) else (if a0 > a1 then (some 1) else (some 0))))) = some r := H
 have A4 := Aside0.mk A40
 clear A40
 by_cases c5 : t290 = true
 ·subst c5
  have H1 : (if t291 = true then (some 0) else (some (-1))) = some r := by rw [if_pos rfl] at H;exact H
  clear H
  have H := H1
  clear H1
  by_cases c6 : t291 = true
  ·subst c6
   have H1 : (some 0) = some r := by rw [if_pos rfl] at H;exact H
   clear H
   have H := H1
   clear H1
   obtain rfl := Option.some.inj H
   go_enter Try.func150, Try.ntmps150
   go_wp2_with (first | ((with_reducible refine gate_callee (f := 157) rfl ?_);refine goesL_ (some 8) rfl rfl Try.func157 (by kernel_rfl) rfl #[.int .i64 a0] rfl mM ?_;(with_reducible refine (cmp_isNaN_int.calls a0 true _ A3.out).mono ?_);rintro e w' ⟨rfl, ⟨nd, rfl⟩⟩;refine ⟨_, rfl, ?_⟩) | ((with_reducible refine gate_callee (f := 157) rfl ?_);refine goesL_ (some 10) rfl rfl Try.func157 (by kernel_rfl) rfl #[.int .i64 a1] rfl mM ?_;(with_reducible refine (cmp_isNaN_int.calls a1 true _ A4.out).mono ?_);rintro e w' ⟨rfl, ⟨nd, rfl⟩⟩;refine ⟨_, rfl, ?_⟩))
   go_ret
   exact ⟨by first | rfl | (simp;done) | (simp [*];done), by repeat (first | exact Drawn0.refl _ | apply Drawn0.step)⟩
  ·replace c6 := Bool.eq_false_iff.mpr c6
   subst c6
   have H1 : (some (-1)) = some r := by rw [if_neg (show ¬ (false = true) by decide)] at H;exact H
   clear H
   have H := H1
   clear H1
   obtain rfl := Option.some.inj H
   go_enter Try.func150, Try.ntmps150
   go_wp2_with (first | ((with_reducible refine gate_callee (f := 157) rfl ?_);refine goesL_ (some 8) rfl rfl Try.func157 (by kernel_rfl) rfl #[.int .i64 a0] rfl mM ?_;(with_reducible refine (cmp_isNaN_int.calls a0 true _ A3.out).mono ?_);rintro e w' ⟨rfl, ⟨nd, rfl⟩⟩;refine ⟨_, rfl, ?_⟩) | ((with_reducible refine gate_callee (f := 157) rfl ?_);refine goesL_ (some 10) rfl rfl Try.func157 (by kernel_rfl) rfl #[.int .i64 a1] rfl mM ?_;(with_reducible refine (cmp_isNaN_int.calls a1 false _ A4.out).mono ?_);rintro e w' ⟨rfl, ⟨nd, rfl⟩⟩;refine ⟨_, rfl, ?_⟩))
   go_ret
   exact ⟨by first | rfl | (simp;done) | (simp [*];done), by repeat (first | exact Drawn0.refl _ | apply Drawn0.step)⟩
 ·replace c5 := Bool.eq_false_iff.mpr c5
  subst c5
  have H1 : (if t291 = true then (some 1) else (if a0 < a1 then (some (-1)) else (if a0 > a1 then (some 1) else (some 0)))) = some r := by rw [if_neg (show ¬ (false = true) by decide)] at H;exact H
  clear H
  have H := H1
  clear H1
  by_cases c7 : t291 = true
  ·subst c7
   have H1 : (some 1) = some r := by rw [if_pos rfl] at H;exact H
   clear H
   have H := H1
   clear H1
   obtain rfl := Option.some.inj H
   go_enter Try.func150, Try.ntmps150
   go_wp2_with (first | ((with_reducible refine gate_callee (f := 157) rfl ?_);refine goesL_ (some 8) rfl rfl Try.func157 (by kernel_rfl) rfl #[.int .i64 a0] rfl mM ?_;(with_reducible refine (cmp_isNaN_int.calls a0 false _ A3.out).mono ?_);rintro e w' ⟨rfl, ⟨nd, rfl⟩⟩;refine ⟨_, rfl, ?_⟩) | ((with_reducible refine gate_callee (f := 157) rfl ?_);refine goesL_ (some 10) rfl rfl Try.func157 (by kernel_rfl) rfl #[.int .i64 a1] rfl mM ?_;(with_reducible refine (cmp_isNaN_int.calls a1 true _ A4.out).mono ?_);rintro e w' ⟨rfl, ⟨nd, rfl⟩⟩;refine ⟨_, rfl, ?_⟩))
   go_ret
   exact ⟨by first | rfl | (simp;done) | (simp [*];done), by repeat (first | exact Drawn0.refl _ | apply Drawn0.step)⟩
  ·replace c7 := Bool.eq_false_iff.mpr c7
   subst c7
   have H1 : (if a0 < a1 then (some (-1)) else (if a0 > a1 then (some 1) else (some 0))) = some r := by rw [if_neg (show ¬ (false = true) by decide)] at H;exact H
   clear H
   have H := H1
   clear H1
   by_cases c8 : a0 < a1
   ·rw [if_pos c8] at H
    have c8b0 : decide (a0 < a1) = true := decide_eq_true c8
    clear c8
    obtain rfl := Option.some.inj H
    go_enter Try.func150, Try.ntmps150
    go_wp2_with (first | ((with_reducible refine gate_callee (f := 157) rfl ?_);refine goesL_ (some 8) rfl rfl Try.func157 (by kernel_rfl) rfl #[.int .i64 a0] rfl mM ?_;(with_reducible refine (cmp_isNaN_int.calls a0 false _ A3.out).mono ?_);rintro e w' ⟨rfl, ⟨nd, rfl⟩⟩;refine ⟨_, rfl, ?_⟩) | ((with_reducible refine gate_callee (f := 157) rfl ?_);refine goesL_ (some 10) rfl rfl Try.func157 (by kernel_rfl) rfl #[.int .i64 a1] rfl mM ?_;(with_reducible refine (cmp_isNaN_int.calls a1 false _ A4.out).mono ?_);rintro e w' ⟨rfl, ⟨nd, rfl⟩⟩;refine ⟨_, rfl, ?_⟩))
    go_ret
    exact ⟨by first | rfl | (simp;done) | (simp [*];done), by repeat (first | exact Drawn0.refl _ | apply Drawn0.step)⟩
   ·rw [if_neg c8] at H
    have c8b0 : decide (a0 < a1) = false := decide_eq_false c8
    clear c8
    by_cases c9 : a0 > a1
    ·rw [if_pos c9] at H
     have c9b0 : decide (a1 < a0) = true := decide_eq_true c9
     clear c9
     obtain rfl := Option.some.inj H
     go_enter Try.func150, Try.ntmps150
     go_wp2_with (first | ((with_reducible refine gate_callee (f := 157) rfl ?_);refine goesL_ (some 8) rfl rfl Try.func157 (by kernel_rfl) rfl #[.int .i64 a0] rfl mM ?_;(with_reducible refine (cmp_isNaN_int.calls a0 false _ A3.out).mono ?_);rintro e w' ⟨rfl, ⟨nd, rfl⟩⟩;refine ⟨_, rfl, ?_⟩) | ((with_reducible refine gate_callee (f := 157) rfl ?_);refine goesL_ (some 10) rfl rfl Try.func157 (by kernel_rfl) rfl #[.int .i64 a1] rfl mM ?_;(with_reducible refine (cmp_isNaN_int.calls a1 false _ A4.out).mono ?_);rintro e w' ⟨rfl, ⟨nd, rfl⟩⟩;refine ⟨_, rfl, ?_⟩))
     go_ret
     exact ⟨by first | rfl | (simp;done) | (simp [*];done), by repeat (first | exact Drawn0.refl _ | apply Drawn0.step)⟩
    ·rw [if_neg c9] at H
     have c9b0 : decide (a1 < a0) = false := decide_eq_false c9
     clear c9
     obtain rfl := Option.some.inj H
     go_enter Try.func150, Try.ntmps150
     go_wp2_with (first | ((with_reducible refine gate_callee (f := 157) rfl ?_);refine goesL_ (some 8) rfl rfl Try.func157 (by kernel_rfl) rfl #[.int .i64 a0] rfl mM ?_;(with_reducible refine (cmp_isNaN_int.calls a0 false _ A3.out).mono ?_);rintro e w' ⟨rfl, ⟨nd, rfl⟩⟩;refine ⟨_, rfl, ?_⟩) | ((with_reducible refine gate_callee (f := 157) rfl ?_);refine goesL_ (some 10) rfl rfl Try.func157 (by kernel_rfl) rfl #[.int .i64 a1] rfl mM ?_;(with_reducible refine (cmp_isNaN_int.calls a1 false _ A4.out).mono ?_);rintro e w' ⟨rfl, ⟨nd, rfl⟩⟩;refine ⟨_, rfl, ?_⟩))
     go_ret
     exact ⟨by first | rfl | (simp;done) | (simp [*];done), by repeat (first | exact Drawn0.refl _ | apply Drawn0.step)⟩


end Go.Proofs.Ytmokkhfmbenleaa.QBurningSets
