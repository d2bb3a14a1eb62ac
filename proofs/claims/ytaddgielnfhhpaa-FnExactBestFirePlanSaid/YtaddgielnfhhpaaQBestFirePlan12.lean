import Derived.Test.YtaddgielnfhhpaaQBestFirePlan0
import Derived.Test.YtaddgielnfhhpaaQBestFirePlan11
namespace Go.Proofs.Ytaddgielnfhhpaa.QBestFirePlan
open Go.RowKit Go.Proofs.YtaddgielnfhhpaaW.PrintWords Go.Proofs.YtaddgielnfhhpaaW.PrintLast Go.Proofs.YtaddgielnfhhpaaW.PrintMore
attribute [local go_sem] max2_int min2_int max_two min_two max_three min_three max_four min_four   -- for this text's walks alone
set_option linter.unusedVariables false
set_option linter.unusedSimpArgs false
/-! ### slices_Compare_int_int: function 66 -/
def slices_Compare_int_int.l0 : Nat → List Int → List Int → List Int → Int → Int → Option (Int)
 | 0, _, _, _, _, _ => none
 | k + 1, x0, x1, x9, x10, x11 => if x11 < x10 then (if 0 ≤ x11 then (if x11 < (x9.length : Int) then (if x11 ≥ (x1.length : Int) then (some 1) else (if x11 < (x1.length : Int) then ((cmp_Compare_int.f (rd x9 x11) (rd x1 x11)).bind fun t286 => (if t286 = 0 then (slices_Compare_int_int.l0 k x0 x1 x9 x10 (wrap64 (x11 + 1))) else (some t286))) else (none))) else (none)) else (none)) else (if (x0.length : Int) < (x1.length : Int) then (some (-1)) else (some 0))
def slices_Compare_int_int.f (k : Nat) (l0 : List Int) (l1 : List Int) : Option (Int) := slices_Compare_int_int.l0 k l0 l1 l0 (l0.length : Int) 0
theorem slices_Compare_int_int.mono_l : ∀ k, (∀ y0 y1 y2 y3 y4, LeO (slices_Compare_int_int.l0 k y0 y1 y2 y3 y4) (slices_Compare_int_int.l0 (k + 1) y0 y1 y2 y3 y4))
 | 0 => fun _ _ _ _ _ r h => by simp [slices_Compare_int_int.l0] at h
 | k + 1 => by
  have ih0 := slices_Compare_int_int.mono_l k
  ·intro y0 y1 y2 y3 y4
   unfold slices_Compare_int_int.l0
   repeat' first
   | (with_reducible exact ih0 _ _ _ _ _)
   | (with_reducible exact LeO.refl _)
   | (with_reducible exact LeO.none _)
   | (with_reducible refine LeO.ite ?_ ?_)
   | (with_reducible refine LeO.bind ?_ (fun _ => ?_))
   | exact ih0 _ _ _ _ _
   | exact LeO.none _
   | refine LeO.ite ?_ ?_
   | refine LeO.bind ?_ (fun _ => ?_)
theorem slices_Compare_int_int.mono : ∀ a0 a1 k, LeO (slices_Compare_int_int.f k a0 a1) (slices_Compare_int_int.f (k + 1) a0 a1) := by
 intro a0 a1 k
 have ih0 := slices_Compare_int_int.mono_l k
 unfold slices_Compare_int_int.f
 repeat' first
   | (with_reducible exact ih0 _ _ _ _ _)
   | (with_reducible exact LeO.refl _)
   | (with_reducible exact LeO.none _)
   | (with_reducible refine LeO.ite ?_ ?_)
   | (with_reducible refine LeO.bind ?_ (fun _ => ?_))
   | exact ih0 _ _ _ _ _
   | exact LeO.none _
   | refine LeO.ite ?_ ?_
   | refine LeO.bind ?_ (fun _ => ?_)
set_option maxHeartbeats 8000000 in
set_option maxRecDepth 100000 in
theorem slices_Compare_int_int.calls (k : Nat) (A0 : Option Addr) (c0 : Nat) (l0 : List Int) (A1 : Option Addr) (c1 : Nat) (l1 : List Int) (r : Int) (w : World) (hr0 : Kd.C (Kd.int .i64) w A0 l0.length l0) (hc0 : l0.length ≤ c0) (hr1 : Kd.C (Kd.int .i64) w A1 l1.length l1) (hc1 : l1.length ≤ c1) (h : slices_Compare_int_int.f k l0 l1 = some r) :
  Calls Try.prog 66 #[.slice A0 l0.length c0, .slice A1 l1.length c1] w fun e w' => e = .returned (.int .i64 r) ∧ Drawn0 w w' := by
 have HR0 := Aside0.mk hr0
 have HC0 := Aside0.mk hc0
 clear hr0 hc0
 have HR1 := Aside0.mk hr1
 have HC1 := Aside0.mk hc1
 clear hr1 hc1
 have H : (slices_Compare_int_int.l0 k l0 l1 l0 (l0.length : Int) 0) = some r := h
 clear h
 have H' := Aside0.mk H
 clear H
 go_enter Try.func66, Try.ntmps66
 go_wp2
 go_loopg [11] k (fun kq v11 w' => ∃ (x11_1 : Int), v11 = .int .i64 x11_1 ∧ Aside0 (slices_Compare_int_int.l0 kq l0 l1 l0 (l0.length : Int) x11_1 = some r) ∧ Aside0 (kq ≤ k) ∧ Drawn0 w w')
 case atStart => exact ⟨(0), (by first | rfl | (simp;done) | (simp [*];done)), H', ⟨Nat.le_refl _⟩, by repeat (first | exact Drawn0.refl _ | apply Drawn0.step)⟩
 case round =>
  clear H'
  try clear c1
  try clear p2
  obtain ⟨x11_1, rfl, HA, HK1, ⟨m1, rfl⟩⟩ := hrel
  cases gk with
  | zero => exact absurd HA.out (by simp [slices_Compare_int_int.l0])
  | succ k1 =>
   have H := HA.out
   clear HA
   simp only [slices_Compare_int_int.l0] at H
   by_cases c3 : x11_1 < (l0.length : Int)
   ·rw [if_pos c3] at H
    have c3b0 : decide (x11_1 < (l0.length : Int)) = true := decide_eq_true c3
    clear c3
    by_cases c4 : 0 ≤ x11_1
    ·rw [if_pos c4] at H
     have c4b0 : decide (0 ≤ x11_1) = true := decide_eq_true c4
     clear c4
     by_cases c5 : x11_1 < (l0.length : Int)
     ·rw [if_pos c5] at H
      have c5b0 : decide (x11_1 < (l0.length : Int)) = true := decide_eq_true c5
      clear c5
      by_cases c6 : x11_1 ≥ (l1.length : Int)
      ·rw [if_pos c6] at H
       have c6b0 : decide ((l1.length : Int) ≤ x11_1) = true := decide_eq_true c6
       clear c6
       obtain rfl := Option.some.inj H
       have p284 : 0 ≤ (x11_1 : Int) := oA
       have q284 : x11_1 < (l0.length : Int) := oA
       obtain ⟨ad284, e284, hx284_0⟩ := Kd.at_int HR0.out x11_1 p284 q284
       cases e284
       replace p284 := eq_true p284
       replace q284 := eq_true q284
       go_wp2
       go_ret
       exact ⟨by first | rfl | (simp;done) | (simp [*];done), by repeat (first | exact Drawn0.refl _ | apply Drawn0.step)⟩
      ·rw [if_neg c6] at H
       have c6b0 : decide ((l1.length : Int) ≤ x11_1) = false := decide_eq_false c6
       clear c6
       by_cases c7 : x11_1 < (l1.length : Int)
       ·rw [if_pos c7] at H
        have c7b0 : decide (x11_1 < (l1.length : Int)) = true := decide_eq_true c7
        clear c7
        replace H := Option.bind_eq_some_iff.mp H
        obtain ⟨t286, A80, H⟩ := H
        replace H : (if t286 = 0 then (slices_Compare_int_int.l0 k1 l0 l1 l0 (l0.length : Int) (wrap64 (x11_1 + 1))) else (some t286)) = some r := H
        have A8 := Aside0.mk A80
        clear A80
        by_cases c9 : t286 = 0
        ·rw [if_pos c9] at H
         have c9b0 : (t286 == 0) = true := beq_iff_eq.mpr c9
         have c9b1 : (t286 != 0) = false := bne_eq_false_iff_eq.mpr c9
         clear c9
         have H' := Aside0.mk H
         clear H
         have p284 : 0 ≤ (x11_1 : Int) := oA
         have q284 : x11_1 < (l0.length : Int) := oA
         obtain ⟨ad284, e284, hx284_0⟩ := Kd.at_int HR0.out x11_1 p284 q284
         cases e284
         replace p284 := eq_true p284
         replace q284 := eq_true q284
         have p285 : 0 ≤ (x11_1 : Int) := oA
         have q285 : x11_1 < (l1.length : Int) := oA
         obtain ⟨ad285, e285, hx285_0⟩ := Kd.at_int HR1.out x11_1 p285 q285
         cases e285
         replace p285 := eq_true p285
         replace q285 := eq_true q285
         go_wp2_with (first | ((with_reducible refine gate_callee (f := 99) rfl ?_);refine goesL_ (some 26) rfl rfl Try.func99 (by kernel_rfl) rfl #[.int .i64 (rd l0 x11_1), .int .i64 (rd l1 x11_1)] rfl mM ?_;(with_reducible refine (cmp_Compare_int.calls (rd l0 x11_1) (rd l1 x11_1) t286 _ A8.out).mono ?_);rintro e w' ⟨rfl, ⟨nd, rfl⟩⟩;refine ⟨_, rfl, ?_⟩))
         go_roundg k1
         case measure => have := HK1.out;omega
         case rel => exact ⟨(wrap64 (x11_1 + 1)), (by first | rfl | (simp;done) | (simp [*];done)), H', ⟨by have := HK1.out;omega⟩, by repeat (first | exact Drawn0.refl _ | apply Drawn0.step)⟩
        ·rw [if_neg c9] at H
         have c9b0 : (t286 == 0) = false := beq_eq_false_iff_ne.mpr c9
         have c9b1 : (t286 != 0) = true := bne_iff_ne.mpr c9
         obtain rfl := Option.some.inj H
         have p284 : 0 ≤ (x11_1 : Int) := oA
         have q284 : x11_1 < (l0.length : Int) := oA
         obtain ⟨ad284, e284, hx284_0⟩ := Kd.at_int HR0.out x11_1 p284 q284
         cases e284
         replace p284 := eq_true p284
         replace q284 := eq_true q284
         have p285 : 0 ≤ (x11_1 : Int) := oA
         have q285 : x11_1 < (l1.length : Int) := oA
         obtain ⟨ad285, e285, hx285_0⟩ := Kd.at_int HR1.out x11_1 p285 q285
         cases e285
         replace p285 := eq_true p285
         replace q285 := eq_true q285
         go_wp2_with (first | ((with_reducible refine gate_callee (f := 99) rfl ?_);refine goesL_ (some 26) rfl rfl Try.func99 (by kernel_rfl) rfl #[.int .i64 (rd l0 x11_1), .int .i64 (rd l1 x11_1)] rfl mM ?_;(with_reducible refine (cmp_Compare_int.calls (rd l0 x11_1) (rd l1 x11_1) t286 _ A8.out).mono ?_);rintro e w' ⟨rfl, ⟨nd, rfl⟩⟩;refine ⟨_, rfl, ?_⟩))
         go_ret
         exact ⟨by first | rfl | (simp;done) | (simp [*];done), by repeat (first | exact Drawn0.refl _ | apply Drawn0.step)⟩
       ·rw [if_neg c7] at H
        exact absurd H (by simp)
     ·rw [if_neg c5] at H
      exact absurd H (by simp)
    ·rw [if_neg c4] at H
     exact absurd H (by simp)
   ·rw [if_neg c3] at H
    have c3b0 : decide (x11_1 < (l0.length : Int)) = false := decide_eq_false c3
    clear c3
    by_cases c10 : (l0.length : Int) < (l1.length : Int)
    ·rw [if_pos c10] at H
     have c10b0 : decide ((l0.length : Int) < (l1.length : Int)) = true := decide_eq_true c10
     have c10b1 : decide (l0.length < l1.length) = true := decide_eq_true (Int.ofNat_lt.mp c10)
     clear c10
     obtain rfl := Option.some.inj H
     go_wp2
     go_ret
     exact ⟨by first | rfl | (simp;done) | (simp [*];done), by repeat (first | exact Drawn0.refl _ | apply Drawn0.step)⟩
    ·rw [if_neg c10] at H
     have c10b0 : decide ((l0.length : Int) < (l1.length : Int)) = false := decide_eq_false c10
     have c10b1 : decide (l0.length < l1.length) = false := decide_eq_false (fun h => c10 (Int.ofNat_lt.mpr h))
     clear c10
     obtain rfl := Option.some.inj H
     go_wp2
     go_ret
     exact ⟨by first | rfl | (simp;done) | (simp [*];done), by repeat (first | exact Drawn0.refl _ | apply Drawn0.step)⟩


/-! ### impl_IsGraph: by hand -/
theorem C_two {w : World} {a : Addr} {x y : Int} (h0 : w.cell? a = some (.int .i64 x)) (h1 : w.cell? (a.add 1) = some (.int .i64 y)) : Kd.C (Kd.int .i64) w (some a) ([x, y] : List Int).length [x, y] := by
 refine ⟨rfl, ?_, fun _ => ⟨a, rfl, ?_⟩⟩
 ·simp
 ·intro j p hj
  match j, hj with
  | 0, hj => 
   simp at hj;subst hj
   exact ⟨[.int .i64 x], rfl, rfl, fun i u hu => by
    match i, hu with
    | 0, hu => simp at hu;subst hu;simpa [Addr.add] using h0⟩
  | 1, hj =>
   simp at hj;subst hj
   exact ⟨[.int .i64 y], rfl, rfl, fun i u hu => by
    match i, hu with
    | 0, hu => simp at hu;subst hu;simpa [Addr.add, Kd.int, Kd.scalar] using h1⟩
theorem cmp2 (a b c d : Int) : ∃ k r, slices_Compare_int_int.f k [a, b] [c, d] = some r ∧ (r < 0 ↔ (a < c ∨ a = c ∧ b < d)) := by
 have hc : ∀ x y, cmp_Compare_int.f x y = some (if x < y then -1 else if x > y then 1 else 0) := by
  intro x y;simp [cmp_Compare_int.f, cmp_isNaN_int.f];split <;> (try split) <;> rfl
 have w1 : wrap64 (0 + 1) = 1 := by unfold wrap64;omega
 have w2 : wrap64 (1 + 1) = 2 := by unfold wrap64;omega
 refine ⟨3, if a < c then -1 else if a > c then 1 else if b < d then -1 else if b > d then 1 else 0, ?_, ?_⟩
 ·simp only [slices_Compare_int_int.f, slices_Compare_int_int.l0, hc]
  simp only [rd, w1, w2, Option.bind_some, List.length_cons, List.length_nil]
  by_cases h1 : a < c
  ·simp [h1]
  ·by_cases h2 : c < a
   ·simp [h1, h2]
   ·by_cases h3 : b < d
    ·simp [h1, h2, h3]
    ·by_cases h4 : d < b
     ·simp [h1, h2, h3, h4]
     ·simp [h1, h2, h3, h4]
 ·split
  ·simp;omega
  ·split
   ·simp;omega
   ·split
    ·simp;omega
    ·split <;> simp <;> omega
def impl_IsGraph.f (a0_0 : Int) (l0_1 : List S80) : Option Bool := some (decide (0 ≤ a0_0 ∧ a0_0 ≤ 8) && goodL a0_0 none l0_1)
set_option maxHeartbeats 8000000 in
set_option maxRecDepth 100000 in
theorem impl_IsGraph.calls (a0_0 : Int) (A0_1 : Option Addr) (c0_1 : Nat) (l0_1 : List (S80)) (r : Bool) (w : World) (hr0_1 : Kd.C k80 w A0_1 l0_1.length l0_1) (hc0_1 : l0_1.length ≤ c0_1) (h : impl_IsGraph.f a0_0 l0_1 = some r) :
  Calls Try.prog 38 #[.agg #[.int .i64 a0_0, .slice A0_1 l0_1.length c0_1]] w fun e w' => e = .returned (.bool r) ∧ Below w.heap.size w w' := by
 have HR := Aside0.mk hr0_1
 have HC := Aside0.mk hc0_1
 have H := Aside0.mk (Option.some.inj h)
 clear hr0_1 hc0_1 h
 by_cases hn : 0 ≤ a0_0 ∧ a0_0 ≤ 8
 ·have hw : impl_within.f a0_0 0 8 = some true := by simp [impl_within.f, hn]
  have H1 : Aside0 (goodL a0_0 none l0_1 = r) := ⟨by have := H.out;simpa [hn] using this⟩
  have HW := Aside0.mk hw
  clear hw H
  go_enter Try.func38, Try.ntmps38
  go_wp2_with (go_at_call 65;refine (impl_within.calls _ _ _ _ _ HW.out).mono ?_;rintro e w' ⟨rfl, ⟨nd, rfl⟩⟩)
  have HB : Aside0 (Below w.heap.size w ((w.alloc (Obj.cells #[Value.int IntKind.i64 a0_0, Value.slice A0_1 l0_1.length c0_1] 29)).drewN nd)) := ⟨pw_below_drewN (below_alloc (Below.refl _ _) _) _⟩
  go_loopw [12] (fun v wr => ∃ x : Int, v = .int .i64 x ∧ Aside0 (0 ≤ x ∧ x ≤ l0_1.length) ∧ Aside0 (goodL a0_0 (prevAt l0_1 x.toNat) (l0_1.drop x.toNat) = r) ∧ Aside0 (wr.heap[w.heap.size]? = some (.cells #[.int .i64 a0_0, .slice A0_1 l0_1.length c0_1] 29 (0, 0))) ∧ Aside0 (Below w.heap.size w wr)) (fun v _ => l0_1.length - (intOf v).toNat)
  case atStart => exact ⟨0, rfl, ⟨by omega, by omega⟩, ⟨by simpa [prevAt] using H1.out⟩, ⟨blk_drewN (blk_new w _) _⟩, HB⟩
  case round =>
   clear HB H1
   obtain ⟨x, rfl, HX, HG, BK, HB⟩ := hrel
   have hcz0 : wr.cell? ⟨w.heap.size, 0, none⟩ = some (.int .i64 a0_0) := (blk_cell BK.out 0).trans rfl
   have hcz1 : wr.cell? ⟨w.heap.size, 1, none⟩ = some (.slice A0_1 l0_1.length c0_1) := (blk_cell BK.out 1).trans rfl
   by_cases hlt : x < (l0_1.length : Int)
   ·have hlt' : decide (x < (l0_1.length : Int)) = true := decide_eq_true hlt
    have p0 : 0 ≤ x := HX.out.1
    obtain ⟨ad, e, hx0, hx1⟩ := at_T80 HR.out x p0 hlt
    cases e
    replace hx0 := (HB.out.cell (World.block_lt_of_cell? w _ hx0)).trans hx0
    replace hx1 := (HB.out.cell (World.block_lt_of_cell? w _ hx1)).trans hx1
    replace p0 := eq_true p0
    have hlt'' := eq_true hlt
    have HL := Aside0.mk hlt
    have hsz : w.heap.size < wr.heap.size := blk_lt BK.out
    clear hlt
    go_wp2
    by_cases t0 : (rd_T80 l0_1 x).f0 < 0
    ·have d0 : decide ((rd_T80 l0_1 x).f0 < 0) = true := decide_eq_true t0
     have hr : r = false := by rw [← HG.out, step_lt HX.out.1 HL.out];simp [edgeOk];omega
     subst hr
     clear t0
     go_quiet (fail)
     go_wp2
     go_ret
     exact ⟨rfl, by repeat (first | exact HB.out | apply below_alloc | apply pw_below_drewN | apply below_drew)⟩
    have d0 : decide ((rd_T80 l0_1 x).f0 < 0) = false := decide_eq_false t0
    by_cases t1 : (rd_T80 l0_1 x).f1 ≤ (rd_T80 l0_1 x).f0
    ·have d1 : decide ((rd_T80 l0_1 x).f1 ≤ (rd_T80 l0_1 x).f0) = true := decide_eq_true t1
     have hr : r = false := by rw [← HG.out, step_lt HX.out.1 HL.out];simp [edgeOk];omega
     subst hr
     clear t0 t1
     go_quiet (fail)
     go_wp2
     go_ret
     exact ⟨rfl, by repeat (first | exact HB.out | apply below_alloc | apply pw_below_drewN | apply below_drew)⟩
    have d1 : decide ((rd_T80 l0_1 x).f1 ≤ (rd_T80 l0_1 x).f0) = false := decide_eq_false t1
    by_cases t2 : a0_0 ≤ (rd_T80 l0_1 x).f1
    ·have d2 : decide (a0_0 ≤ (rd_T80 l0_1 x).f1) = true := decide_eq_true t2
     have hr : r = false := by rw [← HG.out, step_lt HX.out.1 HL.out];simp [edgeOk];omega
     subst hr
     clear t0 t1 t2
     go_quiet (fail)
     go_wp2
     go_ret
     exact ⟨rfl, by repeat (first | exact HB.out | apply below_alloc | apply pw_below_drewN | apply below_drew)⟩
    have d2 : decide (a0_0 ≤ (rd_T80 l0_1 x).f1) = false := decide_eq_false t2
    by_cases t3 : 0 < x
    ·have d3 : decide (0 < x) = true := decide_eq_true t3
     have hj : wrap64 (x - 1) = x - 1 := by have h1 := HL.out;have h2 := HX.out;have h3 := HR.out.2.1;unfold wrap64;omega
     obtain ⟨ji, hji⟩ : ∃ j : Int, j = x - 1 := ⟨_, rfl⟩
     have hjw : IntKind.i64.wrap (x - 1) = ji := ((i64_w _).trans hj).trans hji.symm
     have p1 : 0 ≤ ji := by omega
     have q1 : ji < (l0_1.length : Int) := by have := HL.out;omega
     have HJ := Aside0.mk hji
     clear hj hji
     obtain ⟨ad', e', hy0, hy1⟩ := at_T80 HR.out ji p1 q1
     cases e'
     replace hy0 := (HB.out.cell (World.block_lt_of_cell? w _ hy0)).trans hy0
     replace hy1 := (HB.out.cell (World.block_lt_of_cell? w _ hy1)).trans hy1
     replace p1 := eq_true p1
     replace q1 := eq_true q1
     obtain ⟨k, c, hc, hlt⟩ := cmp2 (rd_T80 l0_1 ji).f0 (rd_T80 l0_1 ji).f1 (rd_T80 l0_1 x).f0 (rd_T80 l0_1 x).f1
     have HCMP := Aside0.mk hc
     have HY := Aside0.mk (C_two hy0 hy1)
     clear hc
     by_cases t4 : 0 ≤ c
     ·have d4 : decide (0 ≤ c) = true := decide_eq_true t4
      have hr : r = false := by
       rw [← HG.out, step_lt HX.out.1 HL.out]
       have : edgeLt (rd_T80 l0_1 ji) (rd_T80 l0_1 x) = false := by
        by_cases he : edgeLt (rd_T80 l0_1 ji) (rd_T80 l0_1 x) = true
        ·exfalso;simp [edgeLt] at he;have := hlt.2 he;omega
        ·simpa using he
       have hp : prevAt l0_1 x.toNat = some (rd_T80 l0_1 ji) := by unfold prevAt;rw [if_neg (by omega), HJ.out];congr 2;omega
       rw [hp];simp [this]
      subst hr
      clear t0 t1 t2 t3 t4 hlt
      go_quiet ((first | (go_at_call 66;refine (slices_Compare_int_int.calls k (some _) 2 [_, _] (some _) 2 [_, _] c _ (Kd.C_below HY.out (pw_below_drewN (below_alloc (Below.refl _ _) _) _)) (Nat.le_refl _) (C_two (by simp [go_sem]) (by simp [go_sem, Addr.add])) (Nat.le_refl _) HCMP.out).mono ?_;rintro e w' ⟨rfl, ⟨nd, rfl⟩⟩;exact ⟨rfl, _, World.drewN_drewN _ _ _⟩)))
      go_wp2
      go_ret
      exact ⟨rfl, by repeat (first | exact HB.out | apply below_alloc | apply pw_below_drewN | apply below_drew)⟩
     ·have d4 : decide (0 ≤ c) = false := decide_eq_false t4
      have hr : Aside0 (goodL a0_0 (prevAt l0_1 (x + 1).toNat) (l0_1.drop (x + 1).toNat) = r) := ⟨by
       rw [← HG.out, step_lt HX.out.1 HL.out]
       have he : edgeLt (rd_T80 l0_1 ji) (rd_T80 l0_1 x) = true := by simp only [edgeLt, decide_eq_true_eq];exact hlt.1 (by omega)
       have hp : prevAt l0_1 x.toNat = some (rd_T80 l0_1 ji) := by unfold prevAt;rw [if_neg (by omega), HJ.out];congr 2;omega
       have ho : edgeOk a0_0 (rd_T80 l0_1 x) = true := by simp only [edgeOk, decide_eq_true_eq];omega
       rw [hp, ho];simp [he]⟩
      have HN : Aside0 (x + 1 ≤ l0_1.length ∧ x + 1 ≤ 9223372036854775807) := ⟨by have := HL.out;have := HR.out.2.1;omega⟩
      have hw1 : wrap64 (x + 1) = x + 1 := by have := HN.out;have := HX.out;unfold wrap64;omega
      have HW1 := Aside0.mk hw1
      clear t0 t1 t2 t3 t4 hlt hw1
      go_quiet ((first | (go_at_call 66;refine (slices_Compare_int_int.calls k (some _) 2 [_, _] (some _) 2 [_, _] c _ (Kd.C_below HY.out (pw_below_drewN (below_alloc (Below.refl _ _) _) _)) (Nat.le_refl _) (C_two (by simp [go_sem]) (by simp [go_sem, Addr.add])) (Nat.le_refl _) HCMP.out).mono ?_;rintro e w' ⟨rfl, ⟨nd, rfl⟩⟩;exact ⟨rfl, _, World.drewN_drewN _ _ _⟩)))
      go_wp2
      go_roundw
      case rel => exact ⟨x + 1, by rw [HW1.out], ⟨by have := HX.out;have := HN.out;omega⟩, hr, ⟨by refine kP ?_;exact BK.out⟩, ⟨by repeat (first | exact HB.out | apply below_alloc | apply pw_below_drewN | apply below_drew)⟩⟩
      case measure => have := HL.out;have := HX.out;rw [HW1.out];simp [intOf];omega
    ·have d3 : decide (0 < x) = false := decide_eq_false t3
     obtain rfl : x = 0 := by have := HX.out;omega
     have hr : Aside0 (goodL a0_0 (prevAt l0_1 1) (l0_1.drop 1) = r) := ⟨by rw [← HG.out, step_lt HX.out.1 HL.out];simp [edgeOk, prevAt];omega⟩
     clear t0 t1 t2 t3
     go_quiet (fail)
     go_wp2
     go_roundw
     case rel => exact ⟨1, rfl, ⟨by omega, by have := HL.out;omega⟩, hr, ⟨by refine kP ?_;exact BK.out⟩, ⟨by repeat (first | exact HB.out | apply below_alloc | apply pw_below_drewN | apply below_drew)⟩⟩
     case measure => have := HL.out;simp [intOf];omega
   ·have hlt' : decide (x < (l0_1.length : Int)) = false := decide_eq_false hlt
    obtain rfl : true = r := by have := HG.out;rw [List.drop_eq_nil_of_le (by omega)] at this;simpa [goodL] using this
    clear hlt
    go_wp2
    go_ret
    exact ⟨rfl, HB.out⟩
 ·have hw : impl_within.f a0_0 0 8 = some false := by 
   simp only [impl_within.f]
   split
   ·simp;omega
   ·rfl
  obtain rfl : false = r := by have := H.out;simpa [hn] using this
  have HW := Aside0.mk hw
  clear hw H
  go_enter Try.func38, Try.ntmps38
  go_wp2_with (go_at_call 65;refine (impl_within.calls _ _ _ _ _ HW.out).mono ?_;rintro e w' ⟨rfl, ⟨nd, rfl⟩⟩)
  go_ret
  exact ⟨rfl, by repeat (first | exact Below.refl _ _ | apply below_alloc | apply pw_below_drewN | apply below_drew | refine below_set ?_ (by simp))⟩

/-! ### impl_allWithin: function 39 -/
def impl_allWithin.l0 : Nat → Int → Int → List Int → Int → Int → Option (Bool)
 | 0, _, _, _, _, _ => none
 | k + 1, x1, x2, x9, x10, x11 => if x11 < x10 then (if 0 ≤ x11 then (if x11 < (x9.length : Int) then ((impl_within.f (rd x9 x11) x1 x2).bind fun t289 => (if t289 = true then (impl_allWithin.l0 k x1 x2 x9 x10 (wrap64 (x11 + 1))) else (some false))) else (none)) else (none)) else (some true)
def impl_allWithin.f (k : Nat) (l0 : List Int) (a1 : Int) (a2 : Int) : Option (Bool) := impl_allWithin.l0 k a1 a2 l0 (l0.length : Int) 0
theorem impl_allWithin.mono_l : ∀ k, (∀ y0 y1 y2 y3 y4, LeO (impl_allWithin.l0 k y0 y1 y2 y3 y4) (impl_allWithin.l0 (k + 1) y0 y1 y2 y3 y4))
 | 0 => fun _ _ _ _ _ r h => by simp [impl_allWithin.l0] at h
 | k + 1 => by
  have ih0 := impl_allWithin.mono_l k
  ·intro y0 y1 y2 y3 y4
   unfold impl_allWithin.l0
   repeat' first
   | (with_reducible exact ih0 _ _ _ _ _)
   | (with_reducible exact LeO.refl _)
   | (with_reducible exact LeO.none _)
   | (with_reducible refine LeO.ite ?_ ?_)
   | (with_reducible refine LeO.bind ?_ (fun _ => ?_))
   | exact ih0 _ _ _ _ _
   | exact LeO.none _
   | refine LeO.ite ?_ ?_
   | refine LeO.bind ?_ (fun _ => ?_)
theorem impl_allWithin.mono : ∀ a0 a1 a2 k, LeO (impl_allWithin.f k a0 a1 a2) (impl_allWithin.f (k + 1) a0 a1 a2) := by
 intro a0 a1 a2 k
 have ih0 := impl_allWithin.mono_l k
 unfold impl_allWithin.f
 repeat' first
   | (with_reducible exact ih0 _ _ _ _ _)
   | (with_reducible exact LeO.refl _)
   | (with_reducible exact LeO.none _)
   | (with_reducible refine LeO.ite ?_ ?_)
   | (with_reducible refine LeO.bind ?_ (fun _ => ?_))
   | exact ih0 _ _ _ _ _
   | exact LeO.none _
   | refine LeO.ite ?_ ?_
   | refine LeO.bind ?_ (fun _ => ?_)
set_option maxHeartbeats 8000000 in
set_option maxRecDepth 100000 in
theorem impl_allWithin.calls (k : Nat) (A0 : Option Addr) (c0 : Nat) (l0 : List Int) (a1 : Int) (a2 : Int) (r : Bool) (w : World) (hr0 : Kd.C (Kd.int .i64) w A0 l0.length l0) (hc0 : l0.length ≤ c0) (h : impl_allWithin.f k l0 a1 a2 = some r) :
  Calls Try.prog 39 #[.slice A0 l0.length c0, .int .i64 a1, .int .i64 a2] w fun e w' => e = .returned (.bool r) ∧ Drawn0 w w' := by
 have HR0 := Aside0.mk hr0
 have HC0 := Aside0.mk hc0
 clear hr0 hc0
 have H : (impl_allWithin.l0 k a1 a2 l0 (l0.length : Int) 0) = some r := h
 clear h
 have H' := Aside0.mk H
 clear H
 go_enter Try.func39, Try.ntmps39
 go_wp2
 go_loopg [11] k (fun kq v11 w' => ∃ (x11_1 : Int), v11 = .int .i64 x11_1 ∧ Aside0 (impl_allWithin.l0 kq a1 a2 l0 (l0.length : Int) x11_1 = some r) ∧ Aside0 (kq ≤ k) ∧ Drawn0 w w')
 case atStart => exact ⟨(0), (by first | rfl | (simp;done) | (simp [*];done)), H', ⟨Nat.le_refl _⟩, by repeat (first | exact Drawn0.refl _ | apply Drawn0.step)⟩
 case round =>
  clear H'
  try clear p2
  try clear c3
  obtain ⟨x11_1, rfl, HA, HK1, ⟨m1, rfl⟩⟩ := hrel
  cases gk with
  | zero => exact absurd HA.out (by simp [impl_allWithin.l0])
  | succ k1 =>
   have H := HA.out
   clear HA
   simp only [impl_allWithin.l0] at H
   by_cases c4 : x11_1 < (l0.length : Int)
   ·rw [if_pos c4] at H
    have c4b0 : decide (x11_1 < (l0.length : Int)) = true := decide_eq_true c4
    clear c4
    by_cases c5 : 0 ≤ x11_1
    ·rw [if_pos c5] at H
     have c5b0 : decide (0 ≤ x11_1) = true := decide_eq_true c5
     clear c5
     by_cases c6 : x11_1 < (l0.length : Int)
     ·rw [if_pos c6] at H
      have c6b0 : decide (x11_1 < (l0.length : Int)) = true := decide_eq_true c6
      clear c6
      replace H := Option.bind_eq_some_iff.mp H
      obtain ⟨t289, A70, H⟩ := H
      replace H : (if t289 = true then (impl_allWithin.l0 k1 a1 a2 l0 (l0.length : Int) (wrap64 (x11_1 + 1))) else (some false)) = some r := H
      have A7 := Aside0.mk A70
      clear A70
      by_cases c8 : t289 = true
      ·subst c8
       have H1 : (impl_allWithin.l0 k1 a1 a2 l0 (l0.length : Int) (wrap64 (x11_1 + 1))) = some r := by rw [if_pos rfl] at H;exact H
       clear H
       have H := H1
       clear H1
       have H' := Aside0.mk H
       clear H
       have p288 : 0 ≤ (x11_1 : Int) := oA
       have q288 : x11_1 < (l0.length : Int) := oA
       obtain ⟨ad288, e288, hx288_0⟩ := Kd.at_int HR0.out x11_1 p288 q288
       cases e288
       replace p288 := eq_true p288
       replace q288 := eq_true q288
       go_wp2_with (first | ((with_reducible refine gate_callee (f := 65) rfl ?_);refine goesL_ (some 18) rfl rfl Try.func65 (by kernel_rfl) rfl #[.int .i64 (rd l0 x11_1), .int .i64 a1, .int .i64 a2] rfl mM ?_;(with_reducible refine (impl_within.calls (rd l0 x11_1) a1 a2 true _ A7.out).mono ?_);rintro e w' ⟨rfl, ⟨nd, rfl⟩⟩;refine ⟨_, rfl, ?_⟩))
       go_roundg k1
       case measure => have := HK1.out;omega
       case rel => exact ⟨(wrap64 (x11_1 + 1)), (by first | rfl | (simp;done) | (simp [*];done)), H', ⟨by have := HK1.out;omega⟩, by repeat (first | exact Drawn0.refl _ | apply Drawn0.step)⟩
      ·replace c8 := Bool.eq_false_iff.mpr c8
       subst c8
       have H1 : (some false) = some r := by rw [if_neg (show ¬ (false = true) by decide)] at H;exact H
       clear H
       have H := H1
       clear H1
       obtain rfl := Option.some.inj H
       have p288 : 0 ≤ (x11_1 : Int) := oA
       have q288 : x11_1 < (l0.length : Int) := oA
       obtain ⟨ad288, e288, hx288_0⟩ := Kd.at_int HR0.out x11_1 p288 q288
       cases e288
       replace p288 := eq_true p288
       replace q288 := eq_true q288
       go_wp2_with (first | ((with_reducible refine gate_callee (f := 65) rfl ?_);refine goesL_ (some 18) rfl rfl Try.func65 (by kernel_rfl) rfl #[.int .i64 (rd l0 x11_1), .int .i64 a1, .int .i64 a2] rfl mM ?_;(with_reducible refine (impl_within.calls (rd l0 x11_1) a1 a2 false _ A7.out).mono ?_);rintro e w' ⟨rfl, ⟨nd, rfl⟩⟩;refine ⟨_, rfl, ?_⟩))
       go_ret
       exact ⟨by first | rfl | (simp;done) | (simp [*];done), by repeat (first | exact Drawn0.refl _ | apply Drawn0.step)⟩
     ·rw [if_neg c6] at H
      exact absurd H (by simp)
    ·rw [if_neg c5] at H
     exact absurd H (by simp)
   ·rw [if_neg c4] at H
    have c4b0 : decide (x11_1 < (l0.length : Int)) = false := decide_eq_false c4
    clear c4
    obtain rfl := Option.some.inj H
    go_wp2
    go_ret
    exact ⟨by first | rfl | (simp;done) | (simp [*];done), by repeat (first | exact Drawn0.refl _ | apply Drawn0.step)⟩


/-! ### impl_hasNodes: function 86 -/
def impl_hasNodes.f (k : Nat) (a0_0 : Int) (l0_1 : List (S80)) (l1 : List Int) : Option (Bool) := (impl_IsGraph.f a0_0 l0_1).bind fun t291 => (if t291 = true then ((impl_allWithin.f k l1 0 (wrap64 (a0_0 - 1))).bind fun t292 => (some t292)) else (some false))
theorem impl_hasNodes.mono : ∀ a0 a1 a2 k, LeO (impl_hasNodes.f k a0 a1 a2) (impl_hasNodes.f (k + 1) a0 a1 a2) := by
 intro a0 a1 a2 k
 unfold impl_hasNodes.f
 repeat' first
   | (with_reducible exact impl_allWithin.mono _ _ _ _)
   | (with_reducible exact LeO.refl _)
   | (with_reducible exact LeO.none _)
   | (with_reducible refine LeO.ite ?_ ?_)
   | (with_reducible refine LeO.bind ?_ (fun _ => ?_))
   | exact impl_allWithin.mono _ _ _ _
   | exact LeO.none _
   | refine LeO.ite ?_ ?_
   | refine LeO.bind ?_ (fun _ => ?_)
set_option maxHeartbeats 8000000 in
set_option maxRecDepth 100000 in
theorem impl_hasNodes.calls (k : Nat) (a0_0 : Int) (A0_1 : Option Addr) (c0_1 : Nat) (l0_1 : List (S80)) (A1 : Option Addr) (c1 : Nat) (l1 : List Int) (r : Bool) (w : World) (hr0_1 : Kd.C k80 w A0_1 l0_1.length l0_1) (hc0_1 : l0_1.length ≤ c0_1) (hr1 : Kd.C (Kd.int .i64) w A1 l1.length l1) (hc1 : l1.length ≤ c1) (h : impl_hasNodes.f k a0_0 l0_1 l1 = some r) :
  Calls Try.prog 86 #[.agg #[.int .i64 a0_0, .slice A0_1 l0_1.length c0_1], .slice A1 l1.length c1] w fun e w' => e = .returned (.bool r) ∧ Below w.heap.size w w' := by
 have hu29 := Try.underlying29
 have HR0_1 := Aside0.mk hr0_1
 have HC0_1 := Aside0.mk hc0_1
 clear hr0_1 hc0_1
 have HR1 := Aside0.mk hr1
 have HC1 := Aside0.mk hc1
 clear hr1 hc1
 have HB := Aside0.mk (Below.refl w.heap.size w)
 have H : ((impl_IsGraph.f a0_0 l0_1).bind fun t291 => (if t291 = true then ((impl_allWithin.f k l1 0 (wrap64 (a0_0 - 1))).bind fun t292 => (some t292)) else (some false))) = some r := h
 clear h
 replace H := Option.bind_eq_some_iff.mp H
 obtain ⟨t291, A30, H⟩ := H
 replace H : (if t291 = true then ((impl_allWithin.f k l1 0 (wrap64 (a0_0 - 1))).bind fun t292 => (some t292)) else (some false)) = some r := H
 have A3 := Aside0.mk A30
 clear A30
 by_cases c4 : t291 = true
 ·subst c4
  have H1 : ((impl_allWithin.f k l1 0 (wrap64 (a0_0 - 1))).bind fun t292 => (some t292)) = some r := by rw [if_pos rfl] at H;exact H
  clear H
  have H := H1
  clear H1
  replace H := Option.bind_eq_some_iff.mp H
  obtain ⟨t292, A50, H⟩ := H
  replace H : (some t292) = some r := H
  have A5 := Aside0.mk A50
  clear A50
  obtain rfl := Option.some.inj H
  go_enter Try.func86, Try.ntmps86
  go_wp2_with (first | ((with_reducible refine gate_dst (N := 2) rfl ?_);refine box_event ?hg (N := 2) ?hd (cs := #[.int .i64 a0_0, .slice A0_1 l0_1.length c0_1]) (t := 29) ?hr ?_;(case hd => rfl);(case hg => rfl);(case hr => first | (go_simp;done) | (go_simp;rfl));intro gb290 hg w6 hbox hb;have n0_ := Aside0.mk (below_step (by exact bB) hb);have n1_ := Aside0.mk (hbox);have n2_ := Aside0.mk ((by rw [hg];exact (below_size (by exact bB)) : w.heap.size ≤ gb290));have n3_ := Aside0.mk ((by rw [hg];exact (below_size (by exact bB)) : w.heap.size ≤ gb290));clear HB;have HB := n0_;have BK290 := n1_;have GW290 := n2_;have GE290 := n3_;clear n0_ n1_ n2_ n3_;clear hb hbox hg;have hcz7_0 : w6.cell? ⟨gb290, 0, none⟩ = some (.int .i64 a0_0) := (blk_cell BK290.out 0).trans rfl;have hcz7_1 : w6.cell? ⟨gb290, 1, none⟩ = some (.slice A0_1 l0_1.length c0_1) := (blk_cell BK290.out 1).trans rfl;have hfz7_0 := blk_frozen BK290.out 0;have hfz7_1 := blk_frozen BK290.out 1) | ((with_reducible refine gate_callee (f := 38) rfl ?_);refine goesL_ (some 6) rfl rfl Try.func38 (by kernel_rfl) rfl #[.agg #[.int .i64 a0_0, .slice A0_1 l0_1.length c0_1]] rfl mM ?_;(with_reducible refine (impl_IsGraph.calls a0_0 _ _ l0_1 true _ ?side1 ?side2 A3.out).mono ?_);(case side1 => exact cP (Kd.C_below HR0_1.out HB.out));(case side2 => exact HC0_1.out);rintro e w8 ⟨rfl, hb⟩;refine ⟨_, rfl, ?_⟩;have n0_ := Aside0.mk (blk_below (g := gb290) (o := .cells #[.int .i64 a0_0, .slice A0_1 l0_1.length c0_1] 29 (0, 0)) (by exact kP BK290.out) hb);have n1_ := Aside0.mk (below_step (by exact bB) hb);clear BK290;clear HB;have BK290 := n0_;have HB := n1_;clear n0_ n1_;(try clear hb);(try clear hb2);(try clear hk);(try clear hi);have hcz9_0 : w8.cell? ⟨gb290, 0, none⟩ = some (.int .i64 a0_0) := (blk_cell BK290.out 0).trans rfl;have hcz9_1 : w8.cell? ⟨gb290, 1, none⟩ = some (.slice A0_1 l0_1.length c0_1) := (blk_cell BK290.out 1).trans rfl;have hfz9_0 := blk_frozen BK290.out 0;have hfz9_1 := blk_frozen BK290.out 1) | (go_at_call 39;(with_reducible refine (impl_allWithin.calls k _ _ l1 0 (wrap64 (a0_0 - 1)) t292 _ ?side1 ?side2 A5.out).mono ?_);(case side1 => exact cP (Kd.C_below HR1.out HB.out));(case side2 => exact HC1.out);rintro e w' ⟨rfl, ⟨nd, rfl⟩⟩))
  go_ret
  exact ⟨by first | rfl | (simp [errW_none, errW_some] <;> rfl) | (simp [*, errW_none, errW_some] <;> rfl), by exact bB⟩
 ·replace c4 := Bool.eq_false_iff.mpr c4
  subst c4
  have H1 : (some false) = some r := by rw [if_neg (show ¬ (false = true) by decide)] at H;exact H
  clear H
  have H := H1
  clear H1
  obtain rfl := Option.some.inj H
  go_enter Try.func86, Try.ntmps86
  go_wp2_with (first | ((with_reducible refine gate_dst (N := 2) rfl ?_);refine box_event ?hg (N := 2) ?hd (cs := #[.int .i64 a0_0, .slice A0_1 l0_1.length c0_1]) (t := 29) ?hr ?_;(case hd => rfl);(case hg => rfl);(case hr => first | (go_simp;done) | (go_simp;rfl));intro gb290 hg w10 hbox hb;have n0_ := Aside0.mk (below_step (by exact bB) hb);have n1_ := Aside0.mk (hbox);have n2_ := Aside0.mk ((by rw [hg];exact (below_size (by exact bB)) : w.heap.size ≤ gb290));have n3_ := Aside0.mk ((by rw [hg];exact (below_size (by exact bB)) : w.heap.size ≤ gb290));clear HB;have HB := n0_;have BK290 := n1_;have GW290 := n2_;have GE290 := n3_;clear n0_ n1_ n2_ n3_;clear hb hbox hg;have hcz11_0 : w10.cell? ⟨gb290, 0, none⟩ = some (.int .i64 a0_0) := (blk_cell BK290.out 0).trans rfl;have hcz11_1 : w10.cell? ⟨gb290, 1, none⟩ = some (.slice A0_1 l0_1.length c0_1) := (blk_cell BK290.out 1).trans rfl;have hfz11_0 := blk_frozen BK290.out 0;have hfz11_1 := blk_frozen BK290.out 1) | ((with_reducible refine gate_callee (f := 38) rfl ?_);refine goesL_ (some 6) rfl rfl Try.func38 (by kernel_rfl) rfl #[.agg #[.int .i64 a0_0, .slice A0_1 l0_1.length c0_1]] rfl mM ?_;(with_reducible refine (impl_IsGraph.calls a0_0 _ _ l0_1 false _ ?side1 ?side2 A3.out).mono ?_);(case side1 => exact cP (Kd.C_below HR0_1.out HB.out));(case side2 => exact HC0_1.out);rintro e w12 ⟨rfl, hb⟩;refine ⟨_, rfl, ?_⟩;have n0_ := Aside0.mk (blk_below (g := gb290) (o := .cells #[.int .i64 a0_0, .slice A0_1 l0_1.length c0_1] 29 (0, 0)) (by exact kP BK290.out) hb);have n1_ := Aside0.mk (below_step (by exact bB) hb);clear BK290;clear HB;have BK290 := n0_;have HB := n1_;clear n0_ n1_;(try clear hb);(try clear hb2);(try clear hk);(try clear hi)))
  go_ret
  exact ⟨by first | rfl | (simp [errW_none, errW_some] <;> rfl) | (simp [*, errW_none, errW_some] <;> rfl), by exact bB⟩


/-! ### impl_isFire: function 51 -/
def impl_isFire.f (k : Nat) (a0_0 : Int) (l0_1 : List (S80)) (a1 : Int) (a2 : Int) : Option (Bool) := (impl_hasNodes.f k a0_0 l0_1 (([a1] : List Int))).bind fun t297 => (if t297 = true then ((impl_within.f a2 0 3).bind fun t298 => (some t298)) else (some false))
theorem impl_isFire.mono : ∀ a0 a1 a2 a3 k, LeO (impl_isFire.f k a0 a1 a2 a3) (impl_isFire.f (k + 1) a0 a1 a2 a3) := by
 intro a0 a1 a2 a3 k
 unfold impl_isFire.f
 repeat' first
   | (with_reducible exact impl_hasNodes.mono _ _ _ _)
   | (with_reducible exact LeO.refl _)
   | (with_reducible exact LeO.none _)
   | (with_reducible refine LeO.ite ?_ ?_)
   | (with_reducible refine LeO.bind ?_ (fun _ => ?_))
   | exact impl_hasNodes.mono _ _ _ _
   | exact LeO.none _
   | refine LeO.ite ?_ ?_
   | refine LeO.bind ?_ (fun _ => ?_)
set_option maxHeartbeats 8000000 in
set_option maxRecDepth 100000 in
theorem impl_isFire.calls (k : Nat) (a0_0 : Int) (A0_1 : Option Addr) (c0_1 : Nat) (l0_1 : List (S80)) (a1 : Int) (a2 : Int) (r : Bool) (w : World) (hr0_1 : Kd.C k80 w A0_1 l0_1.length l0_1) (hc0_1 : l0_1.length ≤ c0_1) (h : impl_isFire.f k a0_0 l0_1 a1 a2 = some r) :
  Calls Try.prog 51 #[.agg #[.int .i64 a0_0, .slice A0_1 l0_1.length c0_1], .int .i64 a1, .int .i64 a2] w fun e w' => e = .returned (.bool r) ∧ Below w.heap.size w w' := by
 have hu29 := Try.underlying29
 have HR0_1 := Aside0.mk hr0_1
 have HC0_1 := Aside0.mk hc0_1
 clear hr0_1 hc0_1
 have HB := Aside0.mk (Below.refl w.heap.size w)
 have H : ((impl_hasNodes.f k a0_0 l0_1 (([a1] : List Int))).bind fun t297 => (if t297 = true then ((impl_within.f a2 0 3).bind fun t298 => (some t298)) else (some false))) = some r := h
 clear h
 obtain ⟨y294, hy294⟩ : ∃ y_ : List Int, y_ = (([a1] : List Int)) := ⟨_, rfl⟩
 replace H : ((impl_hasNodes.f k a0_0 l0_1 y294).bind fun t297 => (if t297 = true then ((impl_within.f a2 0 3).bind fun t298 => (some t298)) else (some false))) = some r := by first | (rw [hy294];with_reducible exact H) | (have H2_ := (Option.bind_some _ _).symm.trans H;rw [hy294];with_reducible exact H2_) | (have H2_ := (Option.bind_some _ _).symm.trans H;with_reducible exact H2_) | with_reducible exact H | (rw [hy294];exact H) | exact H
 have Ny294 := Aside0.mk hy294
 clear hy294
 replace H := Option.bind_eq_some_iff.mp H
 obtain ⟨t297, A40, H⟩ := H
 replace H : (if t297 = true then ((impl_within.f a2 0 3).bind fun t298 => (some t298)) else (some false)) = some r := H
 have A4 := Aside0.mk A40
 clear A40
 by_cases c5 : t297 = true
 ·subst c5
  have H1 : ((impl_within.f a2 0 3).bind fun t298 => (some t298)) = some r := by rw [if_pos rfl] at H;exact H
  clear H
  have H := H1
  clear H1
  replace H := Option.bind_eq_some_iff.mp H
  obtain ⟨t298, A60, H⟩ := H
  replace H : (some t298) = some r := H
  have A6 := Aside0.mk A60
  clear A60
  obtain rfl := Option.some.inj H
  go_enter Try.func51, Try.ntmps51
  go_wp2_with (first | ((with_reducible refine gate_dst (N := 3) rfl ?_);refine box_event ?hg (N := 3) ?hd (cs := #[.int .i64 a0_0, .slice A0_1 l0_1.length c0_1]) (t := 29) ?hr ?_;(case hd => rfl);(case hg => rfl);(case hr => first | (go_simp;done) | (go_simp;rfl));intro gb293 hg w7 hbox hb;have n0_ := Aside0.mk (below_step (by exact bB) hb);have n1_ := Aside0.mk (hbox);have n2_ := Aside0.mk ((by rw [hg];exact (below_size (by exact bB)) : w.heap.size ≤ gb293));have n3_ := Aside0.mk ((by rw [hg];exact (below_size (by exact bB)) : w.heap.size ≤ gb293));clear HB;have HB := n0_;have BK293 := n1_;have GW293 := n2_;have GE293 := n3_;clear n0_ n1_ n2_ n3_;clear hb hbox hg;have hcz8_0 : w7.cell? ⟨gb293, 0, none⟩ = some (.int .i64 a0_0) := (blk_cell BK293.out 0).trans rfl;have hcz8_1 : w7.cell? ⟨gb293, 1, none⟩ = some (.slice A0_1 l0_1.length c0_1) := (blk_cell BK293.out 1).trans rfl;have hfz8_0 := blk_frozen BK293.out 0;have hfz8_1 := blk_frozen BK293.out 1) | ((with_reducible refine gate_dst (N := 9) rfl ?_);refine Kd.R_lit (Kd.int .i64) _ 3 ?hg (N := 9) ?hd (xs := ([a1] : List Int)) (inner := [.int .i64 a1]) (ok := fun _ => True) (okp := fun _ => True) ?hr ?hp (fun _ hk => hk) trivial (Below.refl _ _) (Nat.le_refl _) (by simp) ?_;(case hd => rfl);(case hg => rfl);(case hr => first | (go_simp;done) | (go_simp;rfl));(case hp => exact (Reps.one (show Kd.M (Kd.int .i64) _ _ _ a1 [.int .i64 a1] from rfl) (Reps.none _ _)));intro v295 w9 ho10 hb hg_ hnew_;clear hg_ hnew_;(first | rw [← Ny294.out] at ho10 | (simp only [Int.reduceToNat] at ho10;rw [← Ny294.out] at ho10));have n0_ := Aside0.mk (Kd.R_lower ho10 (below_size (by exact bB)));have n1_ := Aside0.mk (blk_below (g := gb293) (o := .cells #[.int .i64 a0_0, .slice A0_1 l0_1.length c0_1] 29 (0, 0)) (by exact kP BK293.out) hb);have n2_ := Aside0.mk (below_step (by exact bB) hb);clear BK293;clear HB;have HO296 := n0_;have BK293 := n1_;have HB := n2_;clear n0_ n1_ n2_;clear hb ho10;obtain ⟨Ao11, co11, eo11⟩ := Kd.R_slice HO296.out;subst eo11) | ((with_reducible refine gate_callee (f := 86) rfl ?_);refine goesL_ (some 10) rfl rfl Try.func86 (by kernel_rfl) rfl #[.agg #[.int .i64 a0_0, .slice A0_1 l0_1.length c0_1], .slice Ao11 y294.length co11] rfl mM ?_;(with_reducible refine (impl_hasNodes.calls k a0_0 _ _ l0_1 _ _ y294 true _ ?side1 ?side2 ?side3 ?side4 A4.out).mono ?_);(case side1 => exact cP (Kd.C_below HR0_1.out HB.out));(case side2 => exact HC0_1.out);(case side3 => exact cP (Kd.R_reads' HO296.out).2.2);(case side4 => exact (Kd.R_reads' HO296.out).2.1);rintro e w12 ⟨rfl, hb⟩;refine ⟨_, rfl, ?_⟩;have n0_ := Aside0.mk (Kd.R_below (by exact rP HO296.out) hb);have n1_ := Aside0.mk (blk_below (g := gb293) (o := .cells #[.int .i64 a0_0, .slice A0_1 l0_1.length c0_1] 29 (0, 0)) (by exact kP BK293.out) hb);have n2_ := Aside0.mk (below_step (by exact bB) hb);clear HO296;clear BK293;clear HB;have HO296 := n0_;have BK293 := n1_;have HB := n2_;clear n0_ n1_ n2_;(try clear hb);(try clear hb2);(try clear hk);(try clear hi)) | (go_at_call 65;(with_reducible refine (impl_within.calls a2 0 3 t298 _ A6.out).mono ?_);rintro e w' ⟨rfl, ⟨nd, rfl⟩⟩))
  go_ret
  exact ⟨by first | rfl | (simp [errW_none, errW_some] <;> rfl) | (simp [*, errW_none, errW_some] <;> rfl), by exact bB⟩
 ·replace c5 := Bool.eq_false_iff.mpr c5
  subst c5
  have H1 : (some false) = some r := by rw [if_neg (show ¬ (false = true) by decide)] at H;exact H
  clear H
  have H := H1
  clear H1
  obtain rfl := Option.some.inj H
  go_enter Try.func51, Try.ntmps51
  go_wp2_with (first | ((with_reducible refine gate_dst (N := 3) rfl ?_);refine box_event ?hg (N := 3) ?hd (cs := #[.int .i64 a0_0, .slice A0_1 l0_1.length c0_1]) (t := 29) ?hr ?_;(case hd => rfl);(case hg => rfl);(case hr => first | (go_simp;done) | (go_simp;rfl));intro gb293 hg w13 hbox hb;have n0_ := Aside0.mk (below_step (by exact bB) hb);have n1_ := Aside0.mk (hbox);have n2_ := Aside0.mk ((by rw [hg];exact (below_size (by exact bB)) : w.heap.size ≤ gb293));have n3_ := Aside0.mk ((by rw [hg];exact (below_size (by exact bB)) : w.heap.size ≤ gb293));clear HB;have HB := n0_;have BK293 := n1_;have GW293 := n2_;have GE293 := n3_;clear n0_ n1_ n2_ n3_;clear hb hbox hg;have hcz14_0 : w13.cell? ⟨gb293, 0, none⟩ = some (.int .i64 a0_0) := (blk_cell BK293.out 0).trans rfl;have hcz14_1 : w13.cell? ⟨gb293, 1, none⟩ = some (.slice A0_1 l0_1.length c0_1) := (blk_cell BK293.out 1).trans rfl;have hfz14_0 := blk_frozen BK293.out 0;have hfz14_1 := blk_frozen BK293.out 1) | ((with_reducible refine gate_dst (N := 9) rfl ?_);refine Kd.R_lit (Kd.int .i64) _ 3 ?hg (N := 9) ?hd (xs := ([a1] : List Int)) (inner := [.int .i64 a1]) (ok := fun _ => True) (okp := fun _ => True) ?hr ?hp (fun _ hk => hk) trivial (Below.refl _ _) (Nat.le_refl _) (by simp) ?_;(case hd => rfl);(case hg => rfl);(case hr => first | (go_simp;done) | (go_simp;rfl));(case hp => exact (Reps.one (show Kd.M (Kd.int .i64) _ _ _ a1 [.int .i64 a1] from rfl) (Reps.none _ _)));intro v295 w15 ho16 hb hg_ hnew_;clear hg_ hnew_;(first | rw [← Ny294.out] at ho16 | (simp only [Int.reduceToNat] at ho16;rw [← Ny294.out] at ho16));have n0_ := Aside0.mk (Kd.R_lower ho16 (below_size (by exact bB)));have n1_ := Aside0.mk (blk_below (g := gb293) (o := .cells #[.int .i64 a0_0, .slice A0_1 l0_1.length c0_1] 29 (0, 0)) (by exact kP BK293.out) hb);have n2_ := Aside0.mk (below_step (by exact bB) hb);clear BK293;clear HB;have HO296 := n0_;have BK293 := n1_;have HB := n2_;clear n0_ n1_ n2_;clear hb ho16;obtain ⟨Ao17, co17, eo17⟩ := Kd.R_slice HO296.out;subst eo17) | ((with_reducible refine gate_callee (f := 86) rfl ?_);refine goesL_ (some 10) rfl rfl Try.func86 (by kernel_rfl) rfl #[.agg #[.int .i64 a0_0, .slice A0_1 l0_1.length c0_1], .slice Ao17 y294.length co17] rfl mM ?_;(with_reducible refine (impl_hasNodes.calls k a0_0 _ _ l0_1 _ _ y294 false _ ?side1 ?side2 ?side3 ?side4 A4.out).mono ?_);(case side1 => exact cP (Kd.C_below HR0_1.out HB.out));(case side2 => exact HC0_1.out);(case side3 => exact cP (Kd.R_reads' HO296.out).2.2);(case side4 => exact (Kd.R_reads' HO296.out).2.1);rintro e w18 ⟨rfl, hb⟩;refine ⟨_, rfl, ?_⟩;have n0_ := Aside0.mk (Kd.R_below (by exact rP HO296.out) hb);have n1_ := Aside0.mk (blk_below (g := gb293) (o := .cells #[.int .i64 a0_0, .slice A0_1 l0_1.length c0_1] 29 (0, 0)) (by exact kP BK293.out) hb);have n2_ := Aside0.mk (below_step (by exact bB) hb);clear HO296;clear BK293;clear HB;have HO296 := n0_;have BK293 := n1_;have HB := n2_;clear n0_ n1_ n2_;(try clear hb);(try clear hb2);(try clear hk);(try clear hi)))
  go_ret
  exact ⟨by first | rfl | (simp [errW_none, errW_some] <;> rfl) | (simp [*, errW_none, errW_some] <;> rfl), by exact bB⟩


end Go.Proofs.Ytaddgielnfhhpaa.QBestFirePlan
