import Derived.Test.YtmokkhfmbenleaaQBurningSets0
import Derived.Test.YtmokkhfmbenleaaQBurningSets13
import Derived.Test.YtmokkhfmbenleaaQBurningSets16
namespace Go.Proofs.Ytmokkhfmbenleaa.QBurningSets
open Go.RowKit Go.Proofs.YtmokkhfmbenleaaW.PrintWords Go.Proofs.YtmokkhfmbenleaaW.PrintLast Go.Proofs.YtmokkhfmbenleaaW.PrintMore
attribute [local go_sem] max2_int min2_int max_two min_two max_three min_three max_four min_four   -- for this text's walks alone
set_option linter.unusedVariables false
set_option linter.unusedSimpArgs false
/-! ### impl_setOf: function 71 -/
def impl_setOf.l0 : Nat → Int → List Int → Int → Option (List Int)
 | 0, _, _, _ => none
 | k + 1, x0, x3, x4 => if 0 ≤ x4 then (if (shr .i64 x0 x4) = 0 then (some x3) else (if (Go.bits .and .i64 (shr .i64 x0 x4) 1) = 1 then (if x3.length < 17592186044416 then (impl_setOf.l0 k x0 (x3 ++ [x4]) (wrap64 (x4 + 1))) else (none)) else (impl_setOf.l0 k x0 x3 (wrap64 (x4 + 1))))) else (none)
def impl_setOf.f (k : Nat) (a0 : Int) : Option (List Int) := impl_setOf.l0 k a0 ([] : List Int) 0
theorem impl_setOf.mono_l : ∀ k, (∀ y0 y1 y2, LeO (impl_setOf.l0 k y0 y1 y2) (impl_setOf.l0 (k + 1) y0 y1 y2))
 | 0 => fun _ _ _ r h => by simp [impl_setOf.l0] at h
 | k + 1 => by
  have ih0 := impl_setOf.mono_l k
  ·intro y0 y1 y2
   unfold impl_setOf.l0
   repeat' first
   | (with_reducible exact ih0 _ _ _)
   | (with_reducible exact LeO.refl _)
   | (with_reducible exact LeO.none _)
   | (with_reducible refine LeO.ite ?_ ?_)
   | (with_reducible refine LeO.bind ?_ (fun _ => ?_))
   | exact ih0 _ _ _
   | exact LeO.none _
   | refine LeO.ite ?_ ?_
   | refine LeO.bind ?_ (fun _ => ?_)
theorem impl_setOf.mono : ∀ a0 k, LeO (impl_setOf.f k a0) (impl_setOf.f (k + 1) a0) := by
 intro a0 k
 have ih0 := impl_setOf.mono_l k
 unfold impl_setOf.f
 repeat' first
   | (with_reducible exact ih0 _ _ _)
   | (with_reducible exact LeO.refl _)
   | (with_reducible exact LeO.none _)
   | (with_reducible refine LeO.ite ?_ ?_)
   | (with_reducible refine LeO.bind ?_ (fun _ => ?_))
   | exact ih0 _ _ _
   | exact LeO.none _
   | refine LeO.ite ?_ ?_
   | refine LeO.bind ?_ (fun _ => ?_)
set_option maxHeartbeats 8000000 in
set_option maxRecDepth 100000 in
theorem impl_setOf.calls (k : Nat) (a0 : Int) (r : List Int) (w : World) (h : impl_setOf.f k a0 = some r) :
  Calls Try.prog 71 #[.int .i64 a0] w fun e w' => ∃ v0_ : Value, e = .returned (v0_) ∧ Kd.R (Kd.int .i64) 3 w' w.heap.size (fun _ => True) v0_ r ∧ Below w.heap.size w w' := by
 have HB := Aside0.mk (Below.refl w.heap.size w)
 have H : (impl_setOf.l0 k a0 ([] : List Int) 0) = some r := h
 clear h
 have H' := Aside0.mk H
 clear H
 go_enter Try.func71, Try.ntmps71
 go_wp2
 go_loopg [3, 4] k (fun kq v3 v4 w' => ∃ (x3_1 : List Int) (x4_1 : Int), v4 = .int .i64 x4_1 ∧ Aside0 (impl_setOf.l0 kq a0 x3_1 x4_1 = some r) ∧ Aside0 (kq ≤ k) ∧ Aside0 (Kd.R (Kd.int .i64) 3 w' w.heap.size (fun _ => True) v3 x3_1) ∧ Aside0 (Below w.heap.size w w'))
 case atStart => exact ⟨(([] : List Int)), (0), (by first | rfl | (simp;done) | (simp [*];done)), H', ⟨Nat.le_refl _⟩, ⟨by first | exact Kd.R_nil _ _ _ _ _ | exact Kd.N_nil _ _ _ _ _ | exact Kd.V_nil _ _ _ _ _ | exact Kd.Q_nil _ _ _ _ _ | exact Kd.S_nil _ _ _ _ _⟩, ⟨by exact bB⟩⟩
 case round =>
  clear H'
  obtain ⟨x3_1, x4_1, rfl, HA, HK1, HO_3, HB⟩ := hrel
  cases gk with
  | zero => exact absurd HA.out (by simp [impl_setOf.l0])
  | succ k1 =>
   have H := HA.out
   clear HA
   simp only [impl_setOf.l0] at H
   by_cases c2 : 0 ≤ x4_1
   ·rw [if_pos c2] at H
    have c2b0 := eq_true c2
    have c2b1 : decide (0 ≤ x4_1) = true := decide_eq_true c2
    clear c2
    obtain ⟨ji3, hji3⟩ : ∃ j_ : Int, (shr .i64 a0 x4_1) = j_ := ⟨_, rfl⟩
    replace H : (if (ji3) = 0 then (some x3_1) else (if (Go.bits .and .i64 (ji3) 1) = 1 then (if x3_1.length < 17592186044416 then (impl_setOf.l0 k1 a0 (x3_1 ++ [x4_1]) (wrap64 (x4_1 + 1))) else (none)) else (impl_setOf.l0 k1 a0 x3_1 (wrap64 (x4_1 + 1))))) = some r := by first | (rw [hji3] at H;exact H) | (simp only [hji3] at H ⊢;exact H)
    have hji3_ : (a0 / 2 ^ min x4_1.toNat 64) = ji3 := hji3
    have hji3z : x4_1 ≤ 64 → (a0 / 2 ^ x4_1.toNat) = ji3 := shr_small hji3
    by_cases c4 : (ji3) = 0
    ·rw [if_pos c4] at H
     have c4b0 : ((ji3) == 0) = true := beq_iff_eq.mpr c4
     have c4b1 : ((ji3) != 0) = false := bne_eq_false_iff_eq.mpr c4
     clear c4
     obtain rfl := Option.some.inj H
     go_wp2
     go_ret
     exact ⟨_, by first | rfl | (simp [errW_none, errW_some] <;> rfl) | (simp only [← hji3];first | rfl | (simp [errW_none, errW_some] <;> rfl)) | (simp [*, errW_none, errW_some] <;> rfl), by exact rP HO_3.out, by exact bB⟩
    ·rw [if_neg c4] at H
     have c4b0 : ((ji3) == 0) = false := beq_eq_false_iff_ne.mpr c4
     have c4b1 : ((ji3) != 0) = true := bne_iff_ne.mpr c4
     have c5b0 := eq_true (oA : 0 ≤ x4_1)
     by_cases c7 : (Go.bits .and .i64 (ji3) 1) = 1
     ·rw [if_pos c7] at H
      have c7b0 : ((Go.bits .and .i64 (ji3) 1) == 1) = true := beq_iff_eq.mpr c7
      have c7b1 : ((Go.bits .and .i64 (ji3) 1) != 1) = false := bne_eq_false_iff_eq.mpr c7
      clear c7
      by_cases c8 : x3_1.length < 17592186044416
      ·rw [if_pos c8] at H
       have LMc8 := Aside0.mk c8
       clear c8
       obtain ⟨y346, hy346⟩ : ∃ y_ : List Int, y_ = (x3_1 ++ [x4_1]) := ⟨_, rfl⟩
       replace H : (impl_setOf.l0 k1 a0 y346 (wrap64 (x4_1 + 1))) = some r := by first | (rw [hy346];with_reducible exact H) | (have H2_ := (Option.bind_some _ _).symm.trans H;rw [hy346];with_reducible exact H2_) | (have H2_ := (Option.bind_some _ _).symm.trans H;with_reducible exact H2_) | with_reducible exact H | (rw [hy346];exact H) | exact H
       have Ny346 := Aside0.mk hy346
       clear hy346
       have H' := Aside0.mk H
       clear H
       go_wp2_with (first | ((with_reducible refine gate_builtin (b := .append) (xs := #[.tmp 16, .tmp 18]) rfl ?_);at_builtin;refine Kd.R_append (Kd.int .i64) (w0 := w) w.heap.size rfl (.tmp 16) (.tmp 18) 28 3 (.int .i64 0) 8 rfl Try.underlying28 info3 rfl (by decide) (by omega) u3 x3_1 x4_1 [.int .i64 x4_1] (fun _ => True) (fun _ => False) rfl rfl ?aP (fun _ hk => hk.elim) ?aF ?aO ?aB ?aS ?aL ?_;(case aP => exact rfl);(case aB => exact (by exact bB));(case aF => exact (fun _ _ => trivial));(case aO => exact (by exact rP HO_3.out));(case aS => exact (below_size (by exact bB)));(case aL => have := LMc8.out;omega);intro v347 w9 ho hb hg hat;rw [← Ny346.out] at ho;have n0_ := Aside0.mk (hb);have n1_ := Aside0.mk (ho);clear HB;clear HO_3;have HB := n0_;have HO348 := n1_;clear n0_ n1_;clear ho hb hg hat))
       go_roundg k1
       case measure => have := HK1.out;omega
       case rel => exact ⟨(y346), (wrap64 (x4_1 + 1)), (by first | rfl | (simp;done) | (simp [*];done)), H', ⟨by have := HK1.out;omega⟩, ⟨by exact rP HO348.out⟩, ⟨by exact bB⟩⟩
      ·rw [if_neg c8] at H
       exact absurd H (by simp)
     ·rw [if_neg c7] at H
      have c7b0 : ((Go.bits .and .i64 (ji3) 1) == 1) = false := beq_eq_false_iff_ne.mpr c7
      have c7b1 : ((Go.bits .and .i64 (ji3) 1) != 1) = true := bne_iff_ne.mpr c7
      have H' := Aside0.mk H
      clear H
      go_wp2
      go_roundg k1
      case measure => have := HK1.out;omega
      case rel => exact ⟨(x3_1), (wrap64 (x4_1 + 1)), (by first | rfl | (simp;done) | (simp [*];done)), H', ⟨by have := HK1.out;omega⟩, ⟨by exact rP HO_3.out⟩, ⟨by exact bB⟩⟩
   ·rw [if_neg c2] at H
    exact absurd H (by simp)


/-! ### impl_BurningSets: function 28 -/
def impl_BurningSets.l0 : Nat → List (List Int) → List Int → Int → Int → Option ((List (List Int)) × Bool)
 | 0, _, _, _, _ => none
 | k + 1, x13, x32, x33, x34 => if x34 < x33 then (if 0 ≤ x34 then (if x34 < (x32.length : Int) then ((impl_setOf.f k (rd x32 x34)).bind fun t359 => (if x13.length < 5864062014805 then (impl_BurningSets.l0 k (x13 ++ [t359]) x32 x33 (wrap64 (x34 + 1))) else (none))) else (none)) else (none)) else (some (x13, true))
def impl_BurningSets.f (k : Nat) (a0_0 : Int) (l0_1 : List (S119)) (a1 : Int) (a2 : Int) (l3 : List (List Int)) : Option ((List (List Int)) × Bool) := (impl_isFire.f k a0_0 l0_1 a1 a2).bind fun t350 => (if t350 = true then ((impl_firePlan.f k a0_0 l0_1 a1 a2 l3).bind fun bt351 => (if bt351.2.2.2 = true then (impl_BurningSets.l0 k ([] : List (List Int)) bt351.1 (bt351.1.length : Int) 0) else (some (([] : List (List Int)), false)))) else (some (([] : List (List Int)), false)))
theorem impl_BurningSets.mono_l : ∀ k, (∀ y0 y1 y2 y3, LeO (impl_BurningSets.l0 k y0 y1 y2 y3) (impl_BurningSets.l0 (k + 1) y0 y1 y2 y3))
 | 0 => fun _ _ _ _ r h => by simp [impl_BurningSets.l0] at h
 | k + 1 => by
  have ih0 := impl_BurningSets.mono_l k
  ·intro y0 y1 y2 y3
   unfold impl_BurningSets.l0
   repeat' first
   | (with_reducible exact ih0 _ _ _ _)
   | (with_reducible exact impl_firePlan.mono _ _ _ _ _ _)
   | (with_reducible exact impl_isFire.mono _ _ _ _ _)
   | (with_reducible exact impl_setOf.mono _ _)
   | (with_reducible exact LeO.refl _)
   | (with_reducible exact LeO.none _)
   | (with_reducible refine LeO.ite ?_ ?_)
   | (with_reducible refine LeO.bind ?_ (fun _ => ?_))
   | exact ih0 _ _ _ _
   | exact impl_firePlan.mono _ _ _ _ _ _
   | exact impl_isFire.mono _ _ _ _ _
   | exact impl_setOf.mono _ _
   | exact LeO.none _
   | refine LeO.ite ?_ ?_
   | refine LeO.bind ?_ (fun _ => ?_)
theorem impl_BurningSets.mono : ∀ a0 a1 a2 a3 a4 k, LeO (impl_BurningSets.f k a0 a1 a2 a3 a4) (impl_BurningSets.f (k + 1) a0 a1 a2 a3 a4) := by
 intro a0 a1 a2 a3 a4 k
 have ih0 := impl_BurningSets.mono_l k
 unfold impl_BurningSets.f
 repeat' first
   | (with_reducible exact ih0 _ _ _ _)
   | (with_reducible exact impl_firePlan.mono _ _ _ _ _ _)
   | (with_reducible exact impl_isFire.mono _ _ _ _ _)
   | (with_reducible exact impl_setOf.mono _ _)
   | (with_reducible exact LeO.refl _)
   | (with_reducible exact LeO.none _)
   | (with_reducible refine LeO.ite ?_ ?_)
   | (with_reducible refine LeO.bind ?_ (fun _ => ?_))
   | exact ih0 _ _ _ _
   | exact impl_firePlan.mono _ _ _ _ _ _
   | exact impl_isFire.mono _ _ _ _ _
   | exact impl_setOf.mono _ _
   | exact LeO.none _
   | refine LeO.ite ?_ ?_
   | refine LeO.bind ?_ (fun _ => ?_)
set_option maxHeartbeats 8000000 in
set_option maxRecDepth 100000 in
theorem impl_BurningSets.calls (k : Nat) (a0_0 : Int) (A0_1 : Option Addr) (c0_1 : Nat) (l0_1 : List (S119)) (a1 : Int) (a2 : Int) (A3 : Option Addr) (c3 : Nat) (l3 : List (List Int)) (r1 : List (List Int)) (r2 : Bool) (w : World) (hr0_1 : Kd.C k119 w A0_1 l0_1.length l0_1) (hc0_1 : l0_1.length ≤ c0_1) (hr3 : Kd.C (Kd.slice 3 (Kd.int .i64)) w A3 l3.length l3) (hc3 : l3.length ≤ c3) (h : impl_BurningSets.f k a0_0 l0_1 a1 a2 l3 = some (r1, r2)) :
  Calls Try.prog 28 #[.agg #[.int .i64 a0_0, .slice A0_1 l0_1.length c0_1], .int .i64 a1, .int .i64 a2, .slice A3 l3.length c3] w fun e w' => ∃ v0_ : Value, e = .returned (.tuple #[v0_, .bool r2]) ∧ Kd.S (Kd.slice 3 (Kd.int .i64)) 28 w' w.heap.size (fun _ => True) v0_ r1 ∧ Below w.heap.size w w' := by
 have hu31 := Try.underlying31
 have hu75 := Try.underlying75
 have HR0_1 := Aside0.mk hr0_1
 have HC0_1 := Aside0.mk hc0_1
 clear hr0_1 hc0_1
 have HR3 := Aside0.mk hr3
 have HC3 := Aside0.mk hc3
 clear hr3 hc3
 have HB := Aside0.mk (Below.refl w.heap.size w)
 have H : ((impl_isFire.f k a0_0 l0_1 a1 a2).bind fun t350 => (if t350 = true then ((impl_firePlan.f k a0_0 l0_1 a1 a2 l3).bind fun bt351 => (if bt351.2.2.2 = true then (impl_BurningSets.l0 k ([] : List (List Int)) bt351.1 (bt351.1.length : Int) 0) else (some (([] : List (List Int)), false)))) else (some (([] : List (List Int)), false)))) = some (r1, r2) := h
 clear h
 replace H := Option.bind_eq_some_iff.mp H
 obtain ⟨t350, A50, H⟩ := H
 replace H : (if t350 = true then ((impl_firePlan.f k a0_0 l0_1 a1 a2 l3).bind fun bt351 => (if bt351.2.2.2 = true then (impl_BurningSets.l0 k ([] : List (List Int)) bt351.1 (bt351.1.length : Int) 0) else (some (([] : List (List Int)), false)))) else (some (([] : List (List Int)), false))) = some (r1, r2) := H
 have A5 := Aside0.mk A50
 clear A50
 by_cases c6 : t350 = true
 ·subst c6
  have H1 : ((impl_firePlan.f k a0_0 l0_1 a1 a2 l3).bind fun bt351 => (if bt351.2.2.2 = true then (impl_BurningSets.l0 k ([] : List (List Int)) bt351.1 (bt351.1.length : Int) 0) else (some (([] : List (List Int)), false)))) = some (r1, r2) := by rw [if_pos rfl] at H;exact H
  clear H
  have H := H1
  clear H1
  replace H := Option.bind_eq_some_iff.mp H
  obtain ⟨⟨t351, t354, t355, t356⟩, A70, H⟩ := H
  replace H : (if t356 = true then (impl_BurningSets.l0 k ([] : List (List Int)) t351 (t351.length : Int) 0) else (some (([] : List (List Int)), false))) = some (r1, r2) := H
  have A7 := Aside0.mk A70
  clear A70
  by_cases c8 : t356 = true
  ·subst c8
   have H1 : (impl_BurningSets.l0 k ([] : List (List Int)) t351 (t351.length : Int) 0) = some (r1, r2) := by rw [if_pos rfl] at H;exact H
   clear H
   have H := H1
   clear H1
   have H' := Aside0.mk H
   clear H
   go_enter Try.func28, Try.ntmps28
   go_wp2_with (first | ((with_reducible refine gate_dst (N := 4) rfl ?_);refine box_event ?hg (N := 4) ?hd (cs := #[.int .i64 a0_0, .slice A0_1 l0_1.length c0_1]) (t := 31) ?hr ?_;(case hd => rfl);(case hg => rfl);(case hr => first | (go_simp;done) | (go_simp;rfl));intro gb349 hg w9 hbox hb;have n0_ := Aside0.mk (below_step (by exact bB) hb);have n1_ := Aside0.mk (hbox);have n2_ := Aside0.mk ((by rw [hg];exact (below_size (by exact bB)) : w.heap.size ≤ gb349));have n3_ := Aside0.mk ((by rw [hg];exact (below_size (by exact bB)) : w.heap.size ≤ gb349));clear HB;have HB := n0_;have BK349 := n1_;have GW349 := n2_;have GE349 := n3_;clear n0_ n1_ n2_ n3_;clear hb hbox hg;have hcz10_0 : w9.cell? ⟨gb349, 0, none⟩ = some (.int .i64 a0_0) := (blk_cell BK349.out 0).trans rfl;have hcz10_1 : w9.cell? ⟨gb349, 1, none⟩ = some (.slice A0_1 l0_1.length c0_1) := (blk_cell BK349.out 1).trans rfl;have hfz10_0 := blk_frozen BK349.out 0;have hfz10_1 := blk_frozen BK349.out 1) | ((with_reducible refine gate_callee (f := 69) rfl ?_);refine goesL_ (some 19) rfl rfl Try.func69 (by kernel_rfl) rfl #[.agg #[.int .i64 a0_0, .slice A0_1 l0_1.length c0_1], .int .i64 a1, .int .i64 a2] rfl mM ?_;(with_reducible refine (impl_isFire.calls k a0_0 _ _ l0_1 a1 a2 true _ ?side1 ?side2 A5.out).mono ?_);(case side1 => exact cP (Kd.C_below HR0_1.out HB.out));(case side2 => exact HC0_1.out);rintro e w11 ⟨rfl, hb⟩;refine ⟨_, rfl, ?_⟩;have n0_ := Aside0.mk (blk_below (g := gb349) (o := .cells #[.int .i64 a0_0, .slice A0_1 l0_1.length c0_1] 31 (0, 0)) (by exact kP BK349.out) hb);have n1_ := Aside0.mk (below_step (by exact bB) hb);clear BK349;clear HB;have BK349 := n0_;have HB := n1_;clear n0_ n1_;(try clear hb);(try clear hb2);(try clear hk);(try clear hi);have hcz12_0 : w11.cell? ⟨gb349, 0, none⟩ = some (.int .i64 a0_0) := (blk_cell BK349.out 0).trans rfl;have hcz12_1 : w11.cell? ⟨gb349, 1, none⟩ = some (.slice A0_1 l0_1.length c0_1) := (blk_cell BK349.out 1).trans rfl;have hfz12_0 := blk_frozen BK349.out 0;have hfz12_1 := blk_frozen BK349.out 1) | ((with_reducible refine gate_callee (f := 70) rfl ?_);refine goesL_ (some 26) rfl rfl Try.func70 (by kernel_rfl) rfl #[.agg #[.int .i64 a0_0, .slice A0_1 l0_1.length c0_1], .int .i64 a1, .int .i64 a2, .slice A3 l3.length c3] rfl mM ?_;(with_reducible refine (impl_firePlan.calls k a0_0 _ _ l0_1 a1 a2 _ _ l3 t351 t354 t355 true _ ?side1 ?side2 ?side3 ?side4 A7.out).mono ?_);(case side1 => exact cP (Kd.C_below HR0_1.out HB.out));(case side2 => exact HC0_1.out);(case side3 => exact cP (Kd.C_below HR3.out HB.out));(case side4 => exact HC3.out);rintro e w13 ⟨v352, rfl, ho0, hb⟩;refine ⟨_, rfl, ?_⟩;have n0_ := Aside0.mk (Kd.R_lower ho0 (below_size (by exact bB)));have n1_ := Aside0.mk (blk_below (g := gb349) (o := .cells #[.int .i64 a0_0, .slice A0_1 l0_1.length c0_1] 31 (0, 0)) (by exact kP BK349.out) hb);have n2_ := Aside0.mk (below_step (by exact bB) hb);clear BK349;clear HB;have HO353 := n0_;have BK349 := n1_;have HB := n2_;clear n0_ n1_ n2_;(try clear hb);(try clear hb2);(try clear hk);(try clear hi);(try clear ho0)) | ((with_reducible refine gate_dst (N := 11) rfl ?_);refine box_event ?hg (N := 11) ?hd (cs := #[.int .i64 0, .int .i64 0]) (t := 75) ?hr ?_;(case hd => rfl);(case hg => rfl);(case hr => first | (go_simp;done) | (go_simp;rfl));intro gb357 hg w14 hbox hb;have n0_ := Aside0.mk (Kd.R_below (by exact rP HO353.out) hb);have n1_ := Aside0.mk (blk_below (g := gb349) (o := .cells #[.int .i64 a0_0, .slice A0_1 l0_1.length c0_1] 31 (0, 0)) (by exact kP BK349.out) hb);have n2_ := Aside0.mk (below_step (by exact bB) hb);have n3_ := Aside0.mk (hbox);have n4_ := Aside0.mk ((by rw [hg];exact (below_size (by exact bB)) : w.heap.size ≤ gb357));have n5_ := Aside0.mk ((by rw [hg];exact (below_size (by exact bB)) : w.heap.size ≤ gb357));have n6_ := Aside0.mk ((by rw [hg];exact Nat.ne_of_lt (blk_lt (g := gb349) (o := .cells #[.int .i64 a0_0, .slice A0_1 l0_1.length c0_1] 31 (0, 0)) (by exact kP BK349.out)) : gb349 ≠ gb357));have n7_ := Aside0.mk ((by rw [hg];exact Nat.ne_of_gt (blk_lt (g := gb349) (o := .cells #[.int .i64 a0_0, .slice A0_1 l0_1.length c0_1] 31 (0, 0)) (by exact kP BK349.out)) : gb357 ≠ gb349));clear HO353;clear BK349;clear HB;have HO353 := n0_;have BK349 := n1_;have HB := n2_;have BK357 := n3_;have GW357 := n4_;have GE357 := n5_;have NB349_357 := n6_;have NB357_349 := n7_;clear n0_ n1_ n2_ n3_ n4_ n5_ n6_ n7_;clear hb hbox hg;have hnb15 := NB357_349.out;have hnc15 := NB349_357.out;have hcz16_0 : w14.cell? ⟨gb357, 0, none⟩ = some (.int .i64 0) := (blk_cell BK357.out 0).trans rfl;have hcz16_1 : w14.cell? ⟨gb357, 1, none⟩ = some (.int .i64 0) := (blk_cell BK357.out 1).trans rfl;have hfz16_0 := blk_frozen BK357.out 0;have hfz16_1 := blk_frozen BK357.out 1;obtain ⟨Ao17, co17, eo17⟩ := Kd.R_slice HO353.out;subst eo17))
   go_loopg [13, 34] k (fun kq v13 v34 w' => ∃ (x13_1 : List (List Int)) (x34_1 : Int), v34 = .int .i64 x34_1 ∧ Aside0 (impl_BurningSets.l0 kq x13_1 t351 (t351.length : Int) x34_1 = some (r1, r2)) ∧ Aside0 (kq ≤ k) ∧ Aside0 (Kd.S (Kd.slice 3 (Kd.int .i64)) 28 w' w.heap.size (fun k_ => some k_ ≠ ((.slice Ao17 t351.length co17) : Value).ownBlock) v13 x13_1) ∧ Aside0 (Kd.R (Kd.int .i64) 3 w' w.heap.size (fun _ => True) (.slice Ao17 t351.length co17) t351) ∧ Aside0 (w'.heap[gb349]? = some (.cells #[.int .i64 a0_0, (.slice A0_1 l0_1.length c0_1)] 31 (0, 0))) ∧ Aside0 (w'.heap[gb357]? = some (.cells #[.int .i64 t354, .int .i64 t355] 75 (0, 0))) ∧ Aside0 (Below w.heap.size w w'))
   case atStart => exact ⟨(([] : List (List Int))), (0), (by first | rfl | (simp;done) | (simp [*];done)), H', ⟨Nat.le_refl _⟩, ⟨by first | exact Kd.S_nil _ _ _ _ _ | exact Kd.N_nil _ _ _ _ _ | exact Kd.V_nil _ _ _ _ _ | exact Kd.Q_nil _ _ _ _ _ | exact Kd.R_nil _ _ _ _ _⟩, ⟨by refine rP ?_;exact Kd.R_mono (Kd.R_far (p := ⟨gb357, 1, none⟩) (Kd.R_far (p := ⟨gb357, 0, none⟩) (Kd.R_types HO353.out BK357.out (by decide)) (fun _ hk => hk.2) (.int .i64 t354)) (fun _ hk => hk.2) (.int .i64 t355)) (fun _ hk => trivial)⟩, ⟨by refine kP ?_;refine blk_far ?_ NB349_357.out _;refine kP ?_;refine blk_far ?_ NB349_357.out _;exact kP BK349.out⟩, ⟨by refine kP ?_;refine blk_put (cs := #[.int .i64 t354, .int .i64 0]) ?_ 1 _ rfl;refine kP ?_;refine blk_put (cs := #[.int .i64 0, .int .i64 0]) ?_ 0 _ rfl;exact kP BK357.out⟩, ⟨by exact bB⟩⟩
   case round =>
    clear H'
    try clear c1
    try clear c2
    try clear p2
    try clear c3
    try clear c6
    try clear c7
    try clear c8
    try clear c15
    try clear hcz10_0
    try clear hcz10_1
    try clear hcz12_0
    try clear hcz12_1
    try clear hcz16_0
    try clear hcz16_1
    try clear hfz10_0
    try clear hfz10_1
    try clear hfz12_0
    try clear hfz12_1
    try clear hfz16_0
    try clear hfz16_1
    obtain ⟨x13_1, x34_1, rfl, HA, HK1, HO_13, HO_32, BK349, BK357, HB⟩ := hrel
    cases gk with
    | zero => exact absurd HA.out (by simp [impl_BurningSets.l0])
    | succ k1 =>
     have H := HA.out
     clear HA
     simp only [impl_BurningSets.l0] at H
     by_cases c18 : x34_1 < (t351.length : Int)
     ·rw [if_pos c18] at H
      have c18b0 : decide (x34_1 < (t351.length : Int)) = true := decide_eq_true c18
      clear c18
      by_cases c19 : 0 ≤ x34_1
      ·rw [if_pos c19] at H
       have c19b0 : decide (0 ≤ x34_1) = true := decide_eq_true c19
       clear c19
       by_cases c20 : x34_1 < (t351.length : Int)
       ·rw [if_pos c20] at H
        have c20b0 : decide (x34_1 < (t351.length : Int)) = true := decide_eq_true c20
        clear c20
        replace H := Option.bind_eq_some_iff.mp H
        obtain ⟨t359, A210, H⟩ := H
        replace H : (if x13_1.length < 5864062014805 then (impl_BurningSets.l0 k1 (x13_1 ++ [t359]) t351 (t351.length : Int) (wrap64 (x34_1 + 1))) else (none)) = some (r1, r2) := H
        have A21 := Aside0.mk A210
        clear A210
        by_cases c22 : x13_1.length < 5864062014805
        ·rw [if_pos c22] at H
         have LMc22 := Aside0.mk c22
         clear c22
         obtain ⟨y362, hy362⟩ : ∃ y_ : List (List Int), y_ = (x13_1 ++ [t359]) := ⟨_, rfl⟩
         replace H : (impl_BurningSets.l0 k1 y362 t351 (t351.length : Int) (wrap64 (x34_1 + 1))) = some (r1, r2) := by first | (rw [hy362];with_reducible exact H) | (have H2_ := (Option.bind_some _ _).symm.trans H;rw [hy362];with_reducible exact H2_) | (have H2_ := (Option.bind_some _ _).symm.trans H;with_reducible exact H2_) | with_reducible exact H | (rw [hy362];exact H) | exact H
         have Ny362 := Aside0.mk hy362
         clear hy362
         have H' := Aside0.mk H
         clear H
         have p358 : 0 ≤ (x34_1 : Int) := oA
         have q358 : x34_1 < (t351.length : Int) := oA
         obtain ⟨ad358, e358, hx358_0⟩ := Kd.at_int (Kd.R_reads' HO_32.out).2.2 x34_1 p358 q358
         cases e358
         replace p358 := eq_true p358
         replace q358 := eq_true q358
         go_wp2_with (first | ((with_reducible refine gate_callee (f := 71) rfl ?_);refine goesL_ (some 40) rfl rfl Try.func71 (by kernel_rfl) rfl #[.int .i64 (rd t351 x34_1)] rfl mM ?_;(with_reducible refine (impl_setOf.calls k1 (rd t351 x34_1) t359 _ A21.out).mono ?_);rintro e w23 ⟨v360, rfl, ho0, hb⟩;refine ⟨_, rfl, ?_⟩;have n0_ := Aside0.mk (Kd.S_elder' (by (with_reducible repeat (first | apply Kd.S_alloc | apply Kd.S_drewN | apply Kd.S_drew));exact HO_13.out) (Kd.R_base ho0) hb);have n1_ := Aside0.mk (Kd.R_elder' (by exact rP HO_32.out) (Kd.R_base ho0) hb);have n2_ := Aside0.mk (Kd.R_lower (Kd.R_new' ho0 (Kd.R_lt (by exact rP HO_32.out))) (below_size (by exact bB)));have n3_ := Aside0.mk (blk_below (g := gb349) (o := .cells #[.int .i64 a0_0, .slice A0_1 l0_1.length c0_1] 31 (0, 0)) (by exact kP BK349.out) hb);have n4_ := Aside0.mk (blk_below (g := gb357) (o := .cells #[.int .i64 t354, .int .i64 t355] 75 (0, 0)) (by exact kP BK357.out) hb);have n5_ := Aside0.mk (below_step (by exact bB) hb);clear HO_13;clear HO_32;clear BK349;clear BK357;clear HB;have HO_13 := n0_;have HO_32 := n1_;have HO361 := n2_;have BK349 := n3_;have BK357 := n4_;have HB := n5_;clear n0_ n1_ n2_ n3_ n4_ n5_;(try clear hb);(try clear hb2);(try clear hk);(try clear hi);(try clear ho0);obtain ⟨Ao25, co25, eo25⟩ := Kd.R_slice HO361.out;subst eo25) | ((with_reducible refine gate_builtin (b := .append) (xs := #[.tmp 38, .tmp 41]) rfl ?_);at_builtin;refine Kd.S_append (Kd.slice 3 (Kd.int .i64)) (w0 := w) w.heap.size rfl (.tmp 38) (.tmp 41) 25 28 (.slice none 0 0) 24 rfl Try.underlying25 info28 rfl (by decide) (by omega) u13 x13_1 t359 [.slice Ao25 t359.length co25] (fun k_ => some k_ ≠ (.slice (some ad358) t351.length co17 : Value).ownBlock) (fun k_ => some k_ = (.slice Ao25 t359.length co25 : Value).ownBlock) rfl rfl ?aP (fun k_ hk_ => ((Kd.R_mono (ok' := fun k_ => ((fun k_ => some k_ ≠ (.slice (some ad358) t351.length co17 : Value).ownBlock)) k_ ∧ some k_ ≠ (u13 : Value).ownBlock) (Kd.R_apart' (HO361.out) (Kd.S_typed HO_13.out) (by decide)) (fun k_ hk => ⟨hk.1.2, hk.2⟩))).1 k_ hk_.symm) ?aF ?aO ?aB ?aS ?aL ?_;(case aP => exact Kd.M_row (Kd.R_mono (Kd.R_tight rfl (Kd.R_mono (ok' := fun k_ => ((fun k_ => some k_ ≠ (.slice (some ad358) t351.length co17 : Value).ownBlock)) k_ ∧ some k_ ≠ (u13 : Value).ownBlock) (Kd.R_apart' (HO361.out) (Kd.S_typed HO_13.out) (by decide)) (fun k_ hk => ⟨hk.1.2, hk.2⟩))) (fun _ h_ => h_)));(case aB => exact (by exact bB));(case aF => exact (fun k_ hk => Kd.fresh' (Kd.R_lt (by exact rP HO_32.out)) k_ hk));(case aO => exact (by (with_reducible repeat (first | apply Kd.S_alloc | apply Kd.S_drewN | apply Kd.S_drew));exact Kd.S_mono HO_13.out (fun k_ hk => ⟨hk.1, fun e_ => hk.2 e_⟩)));(case aS => exact (below_size (by exact bB)));(case aL => have := LMc22.out;omega);intro v363 w24 ho hb hg hat;rw [← Ny362.out] at ho;have n0_ := Aside0.mk (Kd.R_over' (by exact rP HO_32.out) (Kd.S_typed (by (with_reducible repeat (first | apply Kd.S_alloc | apply Kd.S_drewN | apply Kd.S_drew));exact HO_13.out)) (by decide) hg);have n1_ := Aside0.mk (blk_grown (g := gb349) (o := .cells #[.int .i64 a0_0, .slice A0_1 l0_1.length c0_1] 31 (0, 0)) (by exact kP BK349.out) hg (Kd.S_ne HO_13.out BK349.out (by decide)));have n2_ := Aside0.mk (blk_grown (g := gb357) (o := .cells #[.int .i64 t354, .int .i64 t355] 75 (0, 0)) (by exact kP BK357.out) hg (Kd.S_ne HO_13.out BK357.out (by decide)));have n3_ := Aside0.mk (hb);have n4_ := Aside0.mk (ho);clear HO_32;clear BK349;clear BK357;clear HB;clear HO_13;clear HO361;have HO_32 := n0_;have BK349 := n1_;have BK357 := n2_;have HB := n3_;have HO364 := n4_;clear n0_ n1_ n2_ n3_ n4_;clear ho hb hg hat))
         go_roundg k1
         case measure => have := HK1.out;omega
         case rel => exact ⟨(y362), (wrap64 (x34_1 + 1)), (by first | rfl | (simp;done) | (simp [*];done)), H', ⟨by have := HK1.out;omega⟩, ⟨by (with_reducible repeat (first | apply Kd.S_alloc | apply Kd.S_drewN | apply Kd.S_drew));exact HO364.out⟩, ⟨by refine rP ?_;exact Kd.R_mono HO_32.out (fun _ hk => trivial)⟩, ⟨by exact kP BK349.out⟩, ⟨by exact kP BK357.out⟩, ⟨by exact bB⟩⟩
        ·rw [if_neg c22] at H
         exact absurd H (by simp)
       ·rw [if_neg c20] at H
        exact absurd H (by simp)
      ·rw [if_neg c19] at H
       exact absurd H (by simp)
     ·rw [if_neg c18] at H
      have c18b0 : decide (x34_1 < (t351.length : Int)) = false := decide_eq_false c18
      clear c18
      simp only [Option.some.injEq, Prod.mk.injEq] at H
      obtain ⟨rfl, rfl⟩ := H
      go_wp2
      go_ret2
      exact ⟨_, by first | rfl | (simp [errW_none, errW_some] <;> rfl) | (simp [*, errW_none, errW_some] <;> rfl), by (with_reducible repeat (first | apply Kd.S_alloc | apply Kd.S_drewN | apply Kd.S_drew));exact Kd.S_mono HO_13.out (fun _ hk => trivial), by exact bB⟩
  ·replace c8 := Bool.eq_false_iff.mpr c8
   subst c8
   have H1 : (some (([] : List (List Int)), false)) = some (r1, r2) := by rw [if_neg (show ¬ (false = true) by decide)] at H;exact H
   clear H
   have H := H1
   clear H1
   simp only [Option.some.injEq, Prod.mk.injEq] at H
   obtain ⟨rfl, rfl⟩ := H
   go_enter Try.func28, Try.ntmps28
   go_wp2_with (first | ((with_reducible refine gate_dst (N := 4) rfl ?_);refine box_event ?hg (N := 4) ?hd (cs := #[.int .i64 a0_0, .slice A0_1 l0_1.length c0_1]) (t := 31) ?hr ?_;(case hd => rfl);(case hg => rfl);(case hr => first | (go_simp;done) | (go_simp;rfl));intro gb349 hg w26 hbox hb;have n0_ := Aside0.mk (below_step (by exact bB) hb);have n1_ := Aside0.mk (hbox);have n2_ := Aside0.mk ((by rw [hg];exact (below_size (by exact bB)) : w.heap.size ≤ gb349));have n3_ := Aside0.mk ((by rw [hg];exact (below_size (by exact bB)) : w.heap.size ≤ gb349));clear HB;have HB := n0_;have BK349 := n1_;have GW349 := n2_;have GE349 := n3_;clear n0_ n1_ n2_ n3_;clear hb hbox hg;have hcz27_0 : w26.cell? ⟨gb349, 0, none⟩ = some (.int .i64 a0_0) := (blk_cell BK349.out 0).trans rfl;have hcz27_1 : w26.cell? ⟨gb349, 1, none⟩ = some (.slice A0_1 l0_1.length c0_1) := (blk_cell BK349.out 1).trans rfl;have hfz27_0 := blk_frozen BK349.out 0;have hfz27_1 := blk_frozen BK349.out 1) | ((with_reducible refine gate_callee (f := 69) rfl ?_);refine goesL_ (some 19) rfl rfl Try.func69 (by kernel_rfl) rfl #[.agg #[.int .i64 a0_0, .slice A0_1 l0_1.length c0_1], .int .i64 a1, .int .i64 a2] rfl mM ?_;(with_reducible refine (impl_isFire.calls k a0_0 _ _ l0_1 a1 a2 true _ ?side1 ?side2 A5.out).mono ?_);(case side1 => exact cP (Kd.C_below HR0_1.out HB.out));(case side2 => exact HC0_1.out);rintro e w28 ⟨rfl, hb⟩;refine ⟨_, rfl, ?_⟩;have n0_ := Aside0.mk (blk_below (g := gb349) (o := .cells #[.int .i64 a0_0, .slice A0_1 l0_1.length c0_1] 31 (0, 0)) (by exact kP BK349.out) hb);have n1_ := Aside0.mk (below_step (by exact bB) hb);clear BK349;clear HB;have BK349 := n0_;have HB := n1_;clear n0_ n1_;(try clear hb);(try clear hb2);(try clear hk);(try clear hi);have hcz29_0 : w28.cell? ⟨gb349, 0, none⟩ = some (.int .i64 a0_0) := (blk_cell BK349.out 0).trans rfl;have hcz29_1 : w28.cell? ⟨gb349, 1, none⟩ = some (.slice A0_1 l0_1.length c0_1) := (blk_cell BK349.out 1).trans rfl;have hfz29_0 := blk_frozen BK349.out 0;have hfz29_1 := blk_frozen BK349.out 1) | ((with_reducible refine gate_callee (f := 70) rfl ?_);refine goesL_ (some 26) rfl rfl Try.func70 (by kernel_rfl) rfl #[.agg #[.int .i64 a0_0, .slice A0_1 l0_1.length c0_1], .int .i64 a1, .int .i64 a2, .slice A3 l3.length c3] rfl mM ?_;(with_reducible refine (impl_firePlan.calls k a0_0 _ _ l0_1 a1 a2 _ _ l3 t351 t354 t355 false _ ?side1 ?side2 ?side3 ?side4 A7.out).mono ?_);(case side1 => exact cP (Kd.C_below HR0_1.out HB.out));(case side2 => exact HC0_1.out);(case side3 => exact cP (Kd.C_below HR3.out HB.out));(case side4 => exact HC3.out);rintro e w30 ⟨v352, rfl, ho0, hb⟩;refine ⟨_, rfl, ?_⟩;have n0_ := Aside0.mk (Kd.R_lower ho0 (below_size (by exact bB)));have n1_ := Aside0.mk (blk_below (g := gb349) (o := .cells #[.int .i64 a0_0, .slice A0_1 l0_1.length c0_1] 31 (0, 0)) (by exact kP BK349.out) hb);have n2_ := Aside0.mk (below_step (by exact bB) hb);clear BK349;clear HB;have HO353 := n0_;have BK349 := n1_;have HB := n2_;clear n0_ n1_ n2_;(try clear hb);(try clear hb2);(try clear hk);(try clear hi);(try clear ho0)) | ((with_reducible refine gate_dst (N := 11) rfl ?_);refine box_event ?hg (N := 11) ?hd (cs := #[.int .i64 0, .int .i64 0]) (t := 75) ?hr ?_;(case hd => rfl);(case hg => rfl);(case hr => first | (go_simp;done) | (go_simp;rfl));intro gb357 hg w31 hbox hb;have n0_ := Aside0.mk (Kd.R_below (by exact rP HO353.out) hb);have n1_ := Aside0.mk (blk_below (g := gb349) (o := .cells #[.int .i64 a0_0, .slice A0_1 l0_1.length c0_1] 31 (0, 0)) (by exact kP BK349.out) hb);have n2_ := Aside0.mk (below_step (by exact bB) hb);have n3_ := Aside0.mk (hbox);have n4_ := Aside0.mk ((by rw [hg];exact (below_size (by exact bB)) : w.heap.size ≤ gb357));have n5_ := Aside0.mk ((by rw [hg];exact (below_size (by exact bB)) : w.heap.size ≤ gb357));have n6_ := Aside0.mk ((by rw [hg];exact Nat.ne_of_lt (blk_lt (g := gb349) (o := .cells #[.int .i64 a0_0, .slice A0_1 l0_1.length c0_1] 31 (0, 0)) (by exact kP BK349.out)) : gb349 ≠ gb357));have n7_ := Aside0.mk ((by rw [hg];exact Nat.ne_of_gt (blk_lt (g := gb349) (o := .cells #[.int .i64 a0_0, .slice A0_1 l0_1.length c0_1] 31 (0, 0)) (by exact kP BK349.out)) : gb357 ≠ gb349));clear HO353;clear BK349;clear HB;have HO353 := n0_;have BK349 := n1_;have HB := n2_;have BK357 := n3_;have GW357 := n4_;have GE357 := n5_;have NB349_357 := n6_;have NB357_349 := n7_;clear n0_ n1_ n2_ n3_ n4_ n5_ n6_ n7_;clear hb hbox hg;have hnb32 := NB357_349.out;have hnc32 := NB349_357.out;have hcz33_0 : w31.cell? ⟨gb357, 0, none⟩ = some (.int .i64 0) := (blk_cell BK357.out 0).trans rfl;have hcz33_1 : w31.cell? ⟨gb357, 1, none⟩ = some (.int .i64 0) := (blk_cell BK357.out 1).trans rfl;have hfz33_0 := blk_frozen BK357.out 0;have hfz33_1 := blk_frozen BK357.out 1))
   go_ret2
   exact ⟨_, by first | rfl | (simp [errW_none, errW_some] <;> rfl) | (simp [*, errW_none, errW_some] <;> rfl), by first | exact Kd.S_nil _ _ _ _ _ | exact Kd.N_nil _ _ _ _ _ | exact Kd.V_nil _ _ _ _ _ | exact Kd.Q_nil _ _ _ _ _ | exact Kd.R_nil _ _ _ _ _, by exact bB⟩
 ·replace c6 := Bool.eq_false_iff.mpr c6
  subst c6
  have H1 : (some (([] : List (List Int)), false)) = some (r1, r2) := by rw [if_neg (show ¬ (false = true) by decide)] at H;exact H
  clear H
  have H := H1
  clear H1
  simp only [Option.some.injEq, Prod.mk.injEq] at H
  obtain ⟨rfl, rfl⟩ := H
  go_enter Try.func28, Try.ntmps28
  go_wp2_with (first | ((with_reducible refine gate_dst (N := 4) rfl ?_);refine box_event ?hg (N := 4) ?hd (cs := #[.int .i64 a0_0, .slice A0_1 l0_1.length c0_1]) (t := 31) ?hr ?_;(case hd => rfl);(case hg => rfl);(case hr => first | (go_simp;done) | (go_simp;rfl));intro gb349 hg w34 hbox hb;have n0_ := Aside0.mk (below_step (by exact bB) hb);have n1_ := Aside0.mk (hbox);have n2_ := Aside0.mk ((by rw [hg];exact (below_size (by exact bB)) : w.heap.size ≤ gb349));have n3_ := Aside0.mk ((by rw [hg];exact (below_size (by exact bB)) : w.heap.size ≤ gb349));clear HB;have HB := n0_;have BK349 := n1_;have GW349 := n2_;have GE349 := n3_;clear n0_ n1_ n2_ n3_;clear hb hbox hg;have hcz35_0 : w34.cell? ⟨gb349, 0, none⟩ = some (.int .i64 a0_0) := (blk_cell BK349.out 0).trans rfl;have hcz35_1 : w34.cell? ⟨gb349, 1, none⟩ = some (.slice A0_1 l0_1.length c0_1) := (blk_cell BK349.out 1).trans rfl;have hfz35_0 := blk_frozen BK349.out 0;have hfz35_1 := blk_frozen BK349.out 1) | ((with_reducible refine gate_callee (f := 69) rfl ?_);refine goesL_ (some 19) rfl rfl Try.func69 (by kernel_rfl) rfl #[.agg #[.int .i64 a0_0, .slice A0_1 l0_1.length c0_1], .int .i64 a1, .int .i64 a2] rfl mM ?_;(with_reducible refine (impl_isFire.calls k a0_0 _ _ l0_1 a1 a2 false _ ?side1 ?side2 A5.out).mono ?_);(case side1 => exact cP (Kd.C_below HR0_1.out HB.out));(case side2 => exact HC0_1.out);rintro e w36 ⟨rfl, hb⟩;refine ⟨_, rfl, ?_⟩;have n0_ := Aside0.mk (blk_below (g := gb349) (o := .cells #[.int .i64 a0_0, .slice A0_1 l0_1.length c0_1] 31 (0, 0)) (by exact kP BK349.out) hb);have n1_ := Aside0.mk (below_step (by exact bB) hb);clear BK349;clear HB;have BK349 := n0_;have HB := n1_;clear n0_ n1_;(try clear hb);(try clear hb2);(try clear hk);(try clear hi)))
  go_ret2
  exact ⟨_, by first | rfl | (simp [errW_none, errW_some] <;> rfl) | (simp [*, errW_none, errW_some] <;> rfl), by first | exact Kd.S_nil _ _ _ _ _ | exact Kd.N_nil _ _ _ _ _ | exact Kd.V_nil _ _ _ _ _ | exact Kd.Q_nil _ _ _ _ _ | exact Kd.R_nil _ _ _ _ _, by exact bB⟩




end Go.Proofs.Ytmokkhfmbenleaa.QBurningSets
