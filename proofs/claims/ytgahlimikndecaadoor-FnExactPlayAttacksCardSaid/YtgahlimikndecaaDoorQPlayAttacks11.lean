import Derived.Test.YtgahlimikndecaaDoorQPlayAttacks0
import Derived.Test.YtgahlimikndecaaDoorQPlayAttacks10
namespace Go.Proofs.YtgahlimikndecaaDoor.QPlayAttacks
open Go.RowKit Go.Proofs.YtgahlimikndecaaDoorW.PrintWords Go.Proofs.YtgahlimikndecaaDoorW.PrintLast Go.Proofs.YtgahlimikndecaaDoorW.PrintMore
attribute [local go_sem] max2_int min2_int max_two min_two max_three min_three max_four min_four
set_option linter.unusedVariables false
set_option linter.unusedSimpArgs false
set_option maxRecDepth 100000
set_option maxHeartbeats 8000000
/-! ### impl_IsGraph: by hand -/
theorem C_two {w : World} {a : Addr} {x y : Int} (h0 : w.cell? a = some (.int .i64 x)) (h1 : w.cell? (a.add 1) = some (.int .i64 y)) : Kd.C (Kd.int .i64) w (some a) ([x, y] : List Int).length [x, y] := by
 refine ⟨rfl, ?_, fun _ => ⟨a, rfl, ?_⟩⟩
 ·simp
 ·intro j p hj
  match j, hj with
  | 0, hj => 
   simp at hj;subst hj
   exact ⟨[.int .i64 x], rfl, rfl, fun i u hu => by
    match i, hu with
    | 0, hu => simp at hu;subst hu;simpa [Addr.add] using h0⟩
  | 1, hj =>
   simp at hj;subst hj
   exact ⟨[.int .i64 y], rfl, rfl, fun i u hu => by
    match i, hu with
    | 0, hu => simp at hu;subst hu;simpa [Addr.add, Kd.int, Kd.scalar] using h1⟩
theorem cmp2 (a b c d : Int) : ∃ k r, slices_Compare_int_int.f k [a, b] [c, d] = some r ∧ (r < 0 ↔ (a < c ∨ a = c ∧ b < d)) := by
 have hc : ∀ x y, cmp_Compare_int.f x y = some (if x < y then -1 else if x > y then 1 else 0) := by
  intro x y;simp [cmp_Compare_int.f, cmp_isNaN_int.f];split <;> (try split) <;> rfl
 have w1 : wrap64 (0 + 1) = 1 := by unfold wrap64;omega
 have w2 : wrap64 (1 + 1) = 2 := by unfold wrap64;omega
 refine ⟨3, if a < c then -1 else if a > c then 1 else if b < d then -1 else if b > d then 1 else 0, ?_, ?_⟩
 ·simp only [slices_Compare_int_int.f, slices_Compare_int_int.l0, hc]
  simp only [rd, w1, w2, Option.bind_some, List.length_cons, List.length_nil]
  by_cases h1 : a < c
  ·simp [h1]
  ·by_cases h2 : c < a
   ·simp [h1, h2]
   ·by_cases h3 : b < d
    ·simp [h1, h2, h3]
    ·by_cases h4 : d < b
     ·simp [h1, h2, h3, h4]
     ·simp [h1, h2, h3, h4]
 ·split
  ·simp;omega
  ·split
   ·simp;omega
   ·split
    ·simp;omega
    ·split <;> simp <;> omega
def impl_IsGraph.f (a0_0 : Int) (l0_1 : List S78) : Option Bool := some (decide (0 ≤ a0_0 ∧ a0_0 ≤ 8) && goodL a0_0 none l0_1)
theorem impl_IsGraph.calls (a0_0 : Int) (A0_1 : Option Addr) (c0_1 : Nat) (l0_1 : List (S78)) (r : Bool) (w : World) (hr0_1 : Kd.C k78 w A0_1 l0_1.length l0_1) (hc0_1 : l0_1.length ≤ c0_1) (h : impl_IsGraph.f a0_0 l0_1 = some r) :
  Calls Tryd.prog 30 #[.agg #[.int .i64 a0_0, .slice A0_1 l0_1.length c0_1]] w fun e w' => e = .returned (.bool r) ∧ Below w.heap.size w w' := by
 have HR := Aside0.mk hr0_1
 have HC := Aside0.mk hc0_1
 have H := aM (Option.some.inj h)
 clear hr0_1 hc0_1 h
 by_cases hn : 0 ≤ a0_0 ∧ a0_0 ≤ 8
 ·have hw : impl_within.f a0_0 0 8 = some true := by simp [impl_within.f, hn]
  have H1 : Aside0 (goodL a0_0 none l0_1 = r) := ⟨by have := H.out;simpa [hn] using this⟩
  have HW := Aside0.mk hw
  clear hw H
  go_enter Tryd.func30, Tryd.ntmps30
  go_wp2_with (go_at_call 31;refine (impl_within.calls _ _ _ _ _ HW.out).mono ?_;rintro e w' ⟨rfl, ⟨nd, rfl⟩⟩)
  have HB : Aside0 (Below w.heap.size w ((w.alloc (Obj.cells #[Value.int IntKind.i64 a0_0, Value.slice A0_1 l0_1.length c0_1] 29)).drewN nd)) := ⟨pw_below_drewN (below_alloc (Below.refl _ _) _) _⟩
  go_loopw [12] (fun v wr => ∃ x : Int, v = .int .i64 x ∧ Aside0 (0 ≤ x ∧ x ≤ l0_1.length) ∧ Aside0 (goodL a0_0 (prevAt l0_1 x.toNat) (l0_1.drop x.toNat) = r) ∧ Aside0 (wr.heap[w.heap.size]? = some (.cells #[.int .i64 a0_0, .slice A0_1 l0_1.length c0_1] 29 (0, 0))) ∧ Aside0 (Below w.heap.size w wr)) (fun v _ => l0_1.length - (intOf v).toNat)
  case atStart => exact ⟨0, rfl, ⟨by omega, by omega⟩, ⟨by simpa [prevAt] using H1.out⟩, ⟨blk_drewN (blk_new w _) _⟩, HB⟩
  case round =>
   clear HB H1
   obtain ⟨x, rfl, HX, HG, BK, HB⟩ := hrel
   have hcz0 : wr.cell? ⟨w.heap.size, 0, none⟩ = some (.int .i64 a0_0) := (blk_cell BK.out 0).trans rfl
   have hcz1 : wr.cell? ⟨w.heap.size, 1, none⟩ = some (.slice A0_1 l0_1.length c0_1) := (blk_cell BK.out 1).trans rfl
   by_cases hlt : x < (l0_1.length : Int)
   ·have hlt' : decide (x < (l0_1.length : Int)) = true := decide_eq_true hlt
    have p0 : 0 ≤ x := HX.out.1
    obtain ⟨ad, e, hx0, hx1⟩ := at_T78 HR.out x p0 hlt
    cases e
    replace hx0 := cB HB.out hx0
    replace hx1 := cB HB.out hx1
    replace p0 := eq_true p0
    have hlt'' := eq_true hlt
    have HL := Aside0.mk hlt
    have hsz : w.heap.size < wr.heap.size := blk_lt BK.out
    clear hlt
    go_wp2
    by_cases t0 : (rd_T78 l0_1 x).f0 < 0
    ·have d0 : decide ((rd_T78 l0_1 x).f0 < 0) = true := decide_eq_true t0
     have hr : r = false := by rw [← HG.out, step_lt HX.out.1 HL.out];simp [edgeOk];omega
     subst hr
     clear t0
     go_quiet (fail)
     go_wp2
     go_ret
     exact ⟨rfl, by repeat (first | exact HB.out | apply below_alloc | apply pw_below_drewN | apply below_drew)⟩
    have d0 : decide ((rd_T78 l0_1 x).f0 < 0) = false := decide_eq_false t0
    by_cases t1 : (rd_T78 l0_1 x).f1 ≤ (rd_T78 l0_1 x).f0
    ·have d1 : decide ((rd_T78 l0_1 x).f1 ≤ (rd_T78 l0_1 x).f0) = true := decide_eq_true t1
     have hr : r = false := by rw [← HG.out, step_lt HX.out.1 HL.out];simp [edgeOk];omega
     subst hr
     clear t0 t1
     go_quiet (fail)
     go_wp2
     go_ret
     exact ⟨rfl, by repeat (first | exact HB.out | apply below_alloc | apply pw_below_drewN | apply below_drew)⟩
    have d1 : decide ((rd_T78 l0_1 x).f1 ≤ (rd_T78 l0_1 x).f0) = false := decide_eq_false t1
    by_cases t2 : a0_0 ≤ (rd_T78 l0_1 x).f1
    ·have d2 : decide (a0_0 ≤ (rd_T78 l0_1 x).f1) = true := decide_eq_true t2
     have hr : r = false := by rw [← HG.out, step_lt HX.out.1 HL.out];simp [edgeOk];omega
     subst hr
     clear t0 t1 t2
     go_quiet (fail)
     go_wp2
     go_ret
     exact ⟨rfl, by repeat (first | exact HB.out | apply below_alloc | apply pw_below_drewN | apply below_drew)⟩
    have d2 : decide (a0_0 ≤ (rd_T78 l0_1 x).f1) = false := decide_eq_false t2
    by_cases t3 : 0 < x
    ·have d3 : decide (0 < x) = true := decide_eq_true t3
     have hj : wrap64 (x - 1) = x - 1 := by have h1 := HL.out;have h2 := HX.out;have h3 := HR.out.2.1;unfold wrap64;omega
     obtain ⟨ji, hji⟩ : ∃ j : Int, j = x - 1 := ⟨_, rfl⟩
     have hjw : IntKind.i64.wrap (x - 1) = ji := ((i64_w _).trans hj).trans hji.symm
     have p1 : 0 ≤ ji := by omega
     have q1 : ji < (l0_1.length : Int) := by have := HL.out;omega
     have HJ := Aside0.mk hji
     clear hj hji
     obtain ⟨ad', e', hy0, hy1⟩ := at_T78 HR.out ji p1 q1
     cases e'
     replace hy0 := cB HB.out hy0
     replace hy1 := cB HB.out hy1
     replace p1 := eq_true p1
     replace q1 := eq_true q1
     obtain ⟨k, c, hc, hlt⟩ := cmp2 (rd_T78 l0_1 ji).f0 (rd_T78 l0_1 ji).f1 (rd_T78 l0_1 x).f0 (rd_T78 l0_1 x).f1
     have HCMP := Aside0.mk hc
     have HY := aM (C_two hy0 hy1)
     clear hc
     by_cases t4 : 0 ≤ c
     ·have d4 : decide (0 ≤ c) = true := decide_eq_true t4
      have hr : r = false := by
       rw [← HG.out, step_lt HX.out.1 HL.out]
       have : edgeLt (rd_T78 l0_1 ji) (rd_T78 l0_1 x) = false := by
        by_cases he : edgeLt (rd_T78 l0_1 ji) (rd_T78 l0_1 x) = true
        ·exfalso;simp [edgeLt] at he;have := hlt.2 he;omega
        ·simpa using he
       have hp : prevAt l0_1 x.toNat = some (rd_T78 l0_1 ji) := by unfold prevAt;rw [if_neg (by omega), HJ.out];congr 2;omega
       rw [hp];simp [this]
      subst hr
      clear t0 t1 t2 t3 t4 hlt
      go_quiet ((first | (go_at_call 59;refine (slices_Compare_int_int.calls k (some _) 2 [_, _] (some _) 2 [_, _] c _ (Kd.C_below HY.out (pw_below_drewN (below_alloc (Below.refl _ _) _) _)) (Nat.le_refl _) (C_two (by simp [go_sem]) (by simp [go_sem, Addr.add])) (Nat.le_refl _) HCMP.out).mono ?_;rintro e w' ⟨rfl, ⟨nd, rfl⟩⟩;exact ⟨rfl, _, World.drewN_drewN _ _ _⟩)))
      go_wp2
      go_ret
      exact ⟨rfl, by repeat (first | exact HB.out | apply below_alloc | apply pw_below_drewN | apply below_drew)⟩
     ·have d4 : decide (0 ≤ c) = false := decide_eq_false t4
      have hr : Aside0 (goodL a0_0 (prevAt l0_1 (x + 1).toNat) (l0_1.drop (x + 1).toNat) = r) := ⟨by
       rw [← HG.out, step_lt HX.out.1 HL.out]
       have he : edgeLt (rd_T78 l0_1 ji) (rd_T78 l0_1 x) = true := by simp only [edgeLt, decide_eq_true_eq];exact hlt.1 (by omega)
       have hp : prevAt l0_1 x.toNat = some (rd_T78 l0_1 ji) := by unfold prevAt;rw [if_neg (by omega), HJ.out];congr 2;omega
       have ho : edgeOk a0_0 (rd_T78 l0_1 x) = true := by simp only [edgeOk, decide_eq_true_eq];omega
       rw [hp, ho];simp [he]⟩
      have HN : Aside0 (x + 1 ≤ l0_1.length ∧ x + 1 ≤ 9223372036854775807) := ⟨by have := HL.out;have := HR.out.2.1;omega⟩
      have hw1 : wrap64 (x + 1) = x + 1 := by have := HN.out;have := HX.out;unfold wrap64;omega
      have HW1 := Aside0.mk hw1
      clear t0 t1 t2 t3 t4 hlt hw1
      go_quiet ((first | (go_at_call 59;refine (slices_Compare_int_int.calls k (some _) 2 [_, _] (some _) 2 [_, _] c _ (Kd.C_below HY.out (pw_below_drewN (below_alloc (Below.refl _ _) _) _)) (Nat.le_refl _) (C_two (by simp [go_sem]) (by simp [go_sem, Addr.add])) (Nat.le_refl _) HCMP.out).mono ?_;rintro e w' ⟨rfl, ⟨nd, rfl⟩⟩;exact ⟨rfl, _, World.drewN_drewN _ _ _⟩)))
      go_wp2
      go_roundw
      case rel => exact ⟨x + 1, by rw [HW1.out], ⟨by have := HX.out;have := HN.out;omega⟩, hr, ⟨by refine kP ?_;exact BK.out⟩, ⟨by repeat (first | exact HB.out | apply below_alloc | apply pw_below_drewN | apply below_drew)⟩⟩
      case measure => have := HL.out;have := HX.out;rw [HW1.out];simp [intOf];omega
    ·have d3 : decide (0 < x) = false := decide_eq_false t3
     obtain rfl : x = 0 := by have := HX.out;omega
     have hr : Aside0 (goodL a0_0 (prevAt l0_1 1) (l0_1.drop 1) = r) := ⟨by rw [← HG.out, step_lt HX.out.1 HL.out];simp [edgeOk, prevAt];omega⟩
     clear t0 t1 t2 t3
     go_quiet (fail)
     go_wp2
     go_roundw
     case rel => exact ⟨1, rfl, ⟨by omega, by have := HL.out;omega⟩, hr, ⟨by refine kP ?_;exact BK.out⟩, ⟨by repeat (first | exact HB.out | apply below_alloc | apply pw_below_drewN | apply below_drew)⟩⟩
     case measure => have := HL.out;simp [intOf];omega
   ·have hlt' : decide (x < (l0_1.length : Int)) = false := decide_eq_false hlt
    obtain rfl : true = r := by have := HG.out;rw [List.drop_eq_nil_of_le (by omega)] at this;simpa [goodL] using this
    clear hlt
    go_wp2
    go_ret
    exact ⟨rfl, HB.out⟩
 ·have hw : impl_within.f a0_0 0 8 = some false := by 
   simp only [impl_within.f]
   split
   ·simp;omega
   ·rfl
  obtain rfl : false = r := by have := H.out;simpa [hn] using this
  have HW := Aside0.mk hw
  clear hw H
  go_enter Tryd.func30, Tryd.ntmps30
  go_wp2_with (go_at_call 31;refine (impl_within.calls _ _ _ _ _ HW.out).mono ?_;rintro e w' ⟨rfl, ⟨nd, rfl⟩⟩)
  go_ret
  exact ⟨rfl, by repeat (first | exact Below.refl _ _ | apply below_alloc | apply pw_below_drewN | apply below_drew | refine below_set ?_ (by simp))⟩

/-! ### impl_allWithin: function 92 -/
def impl_allWithin.l0 : Nat → Int → Int → List Int → Int → Int → Option (Bool)
 | 0, _, _, _, _, _ => none
 | k + 1, x1, x2, x9, x10, x11 => if x11 < x10 then (if 0 ≤ x11 then (if x11 < (x9.length : Int) then ((impl_within.f (rd x9 x11) x1 x2).bind fun t540 => (if t540 = true then (impl_allWithin.l0 k x1 x2 x9 x10 (wrap64 (x11 + 1))) else (some false))) else (none)) else (none)) else (some true)
def impl_allWithin.f (k : Nat) (l0 : List Int) (a1 : Int) (a2 : Int) : Option (Bool) := impl_allWithin.l0 k a1 a2 l0 (l0.length : Int) 0
theorem impl_allWithin.mono_l : ∀ k, (∀ y0 y1 y2 y3 y4, LeO (impl_allWithin.l0 k y0 y1 y2 y3 y4) (impl_allWithin.l0 (k + 1) y0 y1 y2 y3 y4))
 | 0 => fun _ _ _ _ _ r h => by simp [impl_allWithin.l0] at h
 | k + 1 => by
  have ih0 := impl_allWithin.mono_l k
  ·intro y0 y1 y2 y3 y4
   unfold impl_allWithin.l0
   exact lM
theorem impl_allWithin.mono : ∀ a0 a1 a2 k, LeO (impl_allWithin.f k a0 a1 a2) (impl_allWithin.f (k + 1) a0 a1 a2) := by
 intro a0 a1 a2 k
 have ih0 := impl_allWithin.mono_l k
 unfold impl_allWithin.f
 exact lM
theorem impl_allWithin.calls (k : Nat) (A0 : Option Addr) (c0 : Nat) (l0 : List Int) (a1 : Int) (a2 : Int) (r : Bool) (w : World) (hr0 : Kd.C (Kd.int .i64) w A0 l0.length l0) (hc0 : l0.length ≤ c0) (h : impl_allWithin.f k l0 a1 a2 = some r) :
  Calls Tryd.prog 92 #[.slice A0 l0.length c0, .int .i64 a1, .int .i64 a2] w fun e w' => e = .returned (.bool r) ∧ Drawn0 w w' := by
 have HR0 := Aside0.mk hr0
 have HC0 := Aside0.mk hc0
 clear hr0 hc0
 have H : (impl_allWithin.l0 k a1 a2 l0 (l0.length : Int) 0) = some r := h
 clear h
 have H' := Aside0.mk H
 clear H
 go_enter Tryd.func92, Tryd.ntmps92
 go_wp2
 go_loopg [11] k (fun kq v11 w' => ∃ (x11_1 : Int), v11 = .int .i64 x11_1 ∧ Aside0 (impl_allWithin.l0 kq a1 a2 l0 (l0.length : Int) x11_1 = some r) ∧ Aside0 (kq ≤ k) ∧ Drawn0 w w')
 case atStart => exact ⟨(0), eF, H', ⟨Nat.le_refl _⟩, dR⟩
 case round =>
  clear H'
  try clear p2
  obtain ⟨x11_1, rfl, HA, HK1, ⟨m1, rfl⟩⟩ := hrel
  cases gk with
  | zero => exact absurd HA.out (by simp [impl_allWithin.l0])
  | succ k1 =>
   have H := HA.out
   clear HA
   simp only [impl_allWithin.l0] at H
   by_cases c4 : x11_1 < (l0.length : Int)
   rotate_left
   ·rw [if_neg c4] at H
    have c4b0 : decide (x11_1 < (l0.length : Int)) = false := decide_eq_false c4
    clear c4
    obtain rfl := sI H
    go_wp2
    go_ret
    exact ⟨eF, dR⟩
   rw [if_pos c4] at H
   have c4b0 : decide (x11_1 < (l0.length : Int)) = true := decide_eq_true c4
   clear c4
   by_cases c5 : 0 ≤ x11_1
   rotate_left
   ·rw [if_neg c5] at H
    exact absurd H (by simp)
   rw [if_pos c5] at H
   have c5b0 : decide (0 ≤ x11_1) = true := decide_eq_true c5
   clear c5
   by_cases c6 : x11_1 < (l0.length : Int)
   rotate_left
   ·rw [if_neg c6] at H
    exact absurd H (by simp)
   rw [if_pos c6] at H
   have c6b0 : decide (x11_1 < (l0.length : Int)) = true := decide_eq_true c6
   clear c6
   replace H := bE H
   obtain ⟨t540, A70, H⟩ := H
   try dsimp only at H
   have A7 := Aside0.mk A70
   clear A70
   by_cases c8 : t540 = true
   rotate_left
   ·replace c8 := Bool.eq_false_iff.mpr c8
    subst c8
    rw [if_neg fF] at H
    obtain rfl := sI H
    have p539 : 0 ≤ (x11_1 : Int) := oA
    have q539 : x11_1 < (l0.length : Int) := oA
    obtain ⟨ad539, e539, hx539_0⟩ := Kd.at_int HR0.out x11_1 p539 q539
    cases e539
    replace p539 := eq_true p539
    replace q539 := eq_true q539
    go_wp2_with (first | ((with_reducible refine gate_callee (f := 31) rfl ?_);refine goesL_ (some 18) rfl rfl Tryd.func31 kR rfl #[.int .i64 (rd l0 x11_1), .int .i64 a1, .int .i64 a2] rfl mM ?_;(with_reducible refine (impl_within.calls (rd l0 x11_1) a1 a2 false _ A7.out).mono ?_);rintro e w' ⟨rfl, ⟨nd, rfl⟩⟩;refine ⟨_, rfl, ?_⟩))
    go_ret
    exact ⟨eF, dR⟩
   subst c8
   rw [if_pos rfl] at H
   have H' := Aside0.mk H
   clear H
   have p539 : 0 ≤ (x11_1 : Int) := oA
   have q539 : x11_1 < (l0.length : Int) := oA
   obtain ⟨ad539, e539, hx539_0⟩ := Kd.at_int HR0.out x11_1 p539 q539
   cases e539
   replace p539 := eq_true p539
   replace q539 := eq_true q539
   go_wp2_with (first | ((with_reducible refine gate_callee (f := 31) rfl ?_);refine goesL_ (some 18) rfl rfl Tryd.func31 kR rfl #[.int .i64 (rd l0 x11_1), .int .i64 a1, .int .i64 a2] rfl mM ?_;(with_reducible refine (impl_within.calls (rd l0 x11_1) a1 a2 true _ A7.out).mono ?_);rintro e w' ⟨rfl, ⟨nd, rfl⟩⟩;refine ⟨_, rfl, ?_⟩))
   go_roundg k1
   case measure => have := HK1.out;omega
   case rel => exact ⟨(wrap64 (x11_1 + 1)), eF, H', ⟨by have := HK1.out;omega⟩, dR⟩


/-! ### impl_hasNodes: function 76 -/
def impl_hasNodes.f (k : Nat) (a0_0 : Int) (l0_1 : List (S78)) (l1 : List Int) : Option (Bool) := (impl_IsGraph.f a0_0 l0_1).bind fun t542 => (if t542 = true then ((impl_allWithin.f k l1 0 (wrap64 (a0_0 - 1))).bind fun t543 => (some t543)) else (some false))
theorem impl_hasNodes.mono : ∀ a0 a1 a2 k, LeO (impl_hasNodes.f k a0 a1 a2) (impl_hasNodes.f (k + 1) a0 a1 a2) := by
 intro a0 a1 a2 k
 unfold impl_hasNodes.f
 have q0 := impl_allWithin.mono
 exact lM
theorem impl_hasNodes.calls (k : Nat) (a0_0 : Int) (A0_1 : Option Addr) (c0_1 : Nat) (l0_1 : List (S78)) (A1 : Option Addr) (c1 : Nat) (l1 : List Int) (r : Bool) (w : World) (hr0_1 : Kd.C k78 w A0_1 l0_1.length l0_1) (hc0_1 : l0_1.length ≤ c0_1) (hr1 : Kd.C (Kd.int .i64) w A1 l1.length l1) (hc1 : l1.length ≤ c1) (h : impl_hasNodes.f k a0_0 l0_1 l1 = some r) :
  Calls Tryd.prog 76 #[.agg #[.int .i64 a0_0, .slice A0_1 l0_1.length c0_1], .slice A1 l1.length c1] w fun e w' => e = .returned (.bool r) ∧ Below w.heap.size w w' := by
 have hu29 := Tryd.underlying29
 have HR0_1 := Aside0.mk hr0_1
 have HC0_1 := Aside0.mk hc0_1
 clear hr0_1 hc0_1
 have HR1 := Aside0.mk hr1
 have HC1 := Aside0.mk hc1
 clear hr1 hc1
 have HB := aM (Below.refl w.heap.size w)
 have H : ((impl_IsGraph.f a0_0 l0_1).bind fun t542 => (if t542 = true then ((impl_allWithin.f k l1 0 (wrap64 (a0_0 - 1))).bind fun t543 => (some t543)) else (some false))) = some r := h
 clear h
 replace H := bE H
 obtain ⟨t542, A30, H⟩ := H
 try dsimp only at H
 have A3 := Aside0.mk A30
 clear A30
 by_cases c4 : t542 = true
 rotate_left
 ·replace c4 := Bool.eq_false_iff.mpr c4
  subst c4
  rw [if_neg fF] at H
  obtain rfl := sI H
  go_enter Tryd.func76, Tryd.ntmps76
  go_wp2_with (first | ((with_reducible refine gate_dst (N := 2) rfl ?_);refine box_event ?hg (N := 2) ?hd (cs := #[.int .i64 a0_0, .slice A0_1 l0_1.length c0_1]) (t := 29) ?hr ?_;(case hd => rfl);(case hg => rfl);(case hr => exact gS);intro gb541 hg w10 hbox hb;have n0_ := aM (below_step (by exact bB) hb);have n1_ := aM (hbox);have n2_ := aM (sW hg : w.heap.size ≤ gb541);have n3_ := aM (sW hg : w.heap.size ≤ gb541);clear HB;have HB := n0_;have BK541 := n1_;have GW541 := n2_;have GE541 := n3_;clear n0_ n1_ n2_ n3_ hb hbox hg;have hcz11_0 := bC0 BK541.out;have hcz11_1 := bC1 BK541.out;have hfz11_0 := blk_frozen BK541.out 0;have hfz11_1 := blk_frozen BK541.out 1) | ((with_reducible refine gate_callee (f := 30) rfl ?_);refine goesL_ (some 6) rfl rfl Tryd.func30 kR rfl #[.agg #[.int .i64 a0_0, .slice A0_1 l0_1.length c0_1]] rfl mM ?_;(with_reducible refine (impl_IsGraph.calls a0_0 _ _ l0_1 false _ ?side1 ?side2 A3.out).mono ?_);(case side1 => exact cP (Kd.C_below HR0_1.out HB.out));(case side2 => exact HC0_1.out);rintro e w12 ⟨rfl, hb⟩;refine ⟨_, rfl, ?_⟩;have n0_ := aM (kB hb BK541.out);have n1_ := aM (below_step (by exact bB) hb);clear BK541 HB;have BK541 := n0_;have HB := n1_;clear n0_ n1_;(try clear hb)))
  go_ret
  exact ⟨eW, by exact bB⟩
 subst c4
 rw [if_pos rfl] at H
 replace H := bE H
 obtain ⟨t543, A50, H⟩ := H
 try dsimp only at H
 have A5 := Aside0.mk A50
 clear A50
 obtain rfl := sI H
 go_enter Tryd.func76, Tryd.ntmps76
 go_wp2_with (first | ((with_reducible refine gate_dst (N := 2) rfl ?_);refine box_event ?hg (N := 2) ?hd (cs := #[.int .i64 a0_0, .slice A0_1 l0_1.length c0_1]) (t := 29) ?hr ?_;(case hd => rfl);(case hg => rfl);(case hr => exact gS);intro gb541 hg w6 hbox hb;have n0_ := aM (below_step (by exact bB) hb);have n1_ := aM (hbox);have n2_ := aM (sW hg : w.heap.size ≤ gb541);have n3_ := aM (sW hg : w.heap.size ≤ gb541);clear HB;have HB := n0_;have BK541 := n1_;have GW541 := n2_;have GE541 := n3_;clear n0_ n1_ n2_ n3_ hb hbox hg;have hcz7_0 := bC0 BK541.out;have hcz7_1 := bC1 BK541.out;have hfz7_0 := blk_frozen BK541.out 0;have hfz7_1 := blk_frozen BK541.out 1) | ((with_reducible refine gate_callee (f := 30) rfl ?_);refine goesL_ (some 6) rfl rfl Tryd.func30 kR rfl #[.agg #[.int .i64 a0_0, .slice A0_1 l0_1.length c0_1]] rfl mM ?_;(with_reducible refine (impl_IsGraph.calls a0_0 _ _ l0_1 true _ ?side1 ?side2 A3.out).mono ?_);(case side1 => exact cP (Kd.C_below HR0_1.out HB.out));(case side2 => exact HC0_1.out);rintro e w8 ⟨rfl, hb⟩;refine ⟨_, rfl, ?_⟩;have n0_ := aM (kB hb BK541.out);have n1_ := aM (below_step (by exact bB) hb);clear BK541 HB;have BK541 := n0_;have HB := n1_;clear n0_ n1_;(try clear hb);have hcz9_0 := bC0 BK541.out;have hcz9_1 := bC1 BK541.out;have hfz9_0 := blk_frozen BK541.out 0;have hfz9_1 := blk_frozen BK541.out 1) | (go_at_call 92;(with_reducible refine (impl_allWithin.calls k _ _ l1 0 (wrap64 (a0_0 - 1)) t543 _ ?side1 ?side2 A5.out).mono ?_);(case side1 => exact cP (Kd.C_below HR1.out HB.out));(case side2 => exact HC1.out);rintro e w' ⟨rfl, ⟨nd, rfl⟩⟩))
 go_ret
 exact ⟨eW, by exact bB⟩


/-! ### impl_increasing: function 77 -/
def impl_increasing.l0 : Nat → List Int → Int → Option (Bool)
 | 0, _, _ => none
 | k + 1, x0, x3 => if x3 < (x0.length : Int) then (if 0 ≤ (wrap64 (x3 - 1)) then (if (wrap64 (x3 - 1)) < (x0.length : Int) then (if 0 ≤ x3 then (if (rd x0 (wrap64 (x3 - 1))) ≥ (rd x0 x3) then (some false) else (impl_increasing.l0 k x0 (wrap64 (x3 + 1)))) else (none)) else (none)) else (none)) else (some true)
def impl_increasing.f (k : Nat) (l0 : List Int) : Option (Bool) := impl_increasing.l0 k l0 1
theorem impl_increasing.mono_l : ∀ k, (∀ y0 y1, LeO (impl_increasing.l0 k y0 y1) (impl_increasing.l0 (k + 1) y0 y1))
 | 0 => fun _ _ r h => by simp [impl_increasing.l0] at h
 | k + 1 => by
  have ih0 := impl_increasing.mono_l k
  ·intro y0 y1
   unfold impl_increasing.l0
   exact lM
theorem impl_increasing.mono : ∀ a0 k, LeO (impl_increasing.f k a0) (impl_increasing.f (k + 1) a0) := by
 intro a0 k
 have ih0 := impl_increasing.mono_l k
 unfold impl_increasing.f
 exact lM
theorem impl_increasing.calls (k : Nat) (A0 : Option Addr) (c0 : Nat) (l0 : List Int) (r : Bool) (w : World) (hr0 : Kd.C (Kd.int .i64) w A0 l0.length l0) (hc0 : l0.length ≤ c0) (h : impl_increasing.f k l0 = some r) :
  Calls Tryd.prog 77 #[.slice A0 l0.length c0] w fun e w' => e = .returned (.bool r) ∧ Drawn0 w w' := by
 have HR0 := Aside0.mk hr0
 have HC0 := Aside0.mk hc0
 clear hr0 hc0
 have H : (impl_increasing.l0 k l0 1) = some r := h
 clear h
 have H' := Aside0.mk H
 clear H
 go_enter Tryd.func77, Tryd.ntmps77
 go_wp2
 repeat (go_quiet (fail);try go_wp2)
 go_loopg [3] k (fun kq v3 w' => ∃ (x3_1 : Int), v3 = .int .i64 x3_1 ∧ Aside0 (impl_increasing.l0 kq l0 x3_1 = some r) ∧ Aside0 (kq ≤ k) ∧ Drawn0 w w')
 case atStart => exact ⟨(1), eF, H', ⟨Nat.le_refl _⟩, dR⟩
 case round =>
  clear H'
  obtain ⟨x3_1, rfl, HA, HK1, ⟨m1, rfl⟩⟩ := hrel
  cases gk with
  | zero => exact absurd HA.out (by simp [impl_increasing.l0])
  | succ k1 =>
   have H := HA.out
   clear HA
   simp only [impl_increasing.l0] at H
   by_cases c2 : x3_1 < (l0.length : Int)
   rotate_left
   ·rw [if_neg c2] at H
    have c2b0 : decide (x3_1 < (l0.length : Int)) = false := decide_eq_false c2
    clear c2
    obtain rfl := sI H
    go_wp2
    repeat (go_quiet (fail);try go_wp2)
    go_ret
    exact ⟨eF, dR⟩
   rw [if_pos c2] at H
   have c2b0 : decide (x3_1 < (l0.length : Int)) = true := decide_eq_true c2
   clear c2
   obtain ⟨ji3, hji3⟩ : ∃ j_ : Int, (wrap64 (x3_1 - 1)) = j_ := ⟨_, rfl⟩
   replace H : (if 0 ≤ (ji3) then (if (ji3) < (l0.length : Int) then (if 0 ≤ x3_1 then (if (rd l0 (ji3)) ≥ (rd l0 x3_1) then (some false) else (impl_increasing.l0 k1 l0 (wrap64 (x3_1 + 1)))) else (none)) else (none)) else (none)) = some r := by first | (rw [hji3] at H;exact H) | (simp only [hji3] at H ⊢;exact H)
   have hji3w : (IntKind.i64.wrap (x3_1 - 1)) = ji3 := (i64_w _).trans hji3
   by_cases c4 : 0 ≤ (ji3)
   rotate_left
   ·rw [if_neg c4] at H
    exact absurd H (by simp)
   rw [if_pos c4] at H
   have c4b0 : decide (0 ≤ (ji3)) = true := decide_eq_true c4
   clear c4
   by_cases c5 : (ji3) < (l0.length : Int)
   rotate_left
   ·rw [if_neg c5] at H
    exact absurd H (by simp)
   rw [if_pos c5] at H
   have c5b0 : decide ((ji3) < (l0.length : Int)) = true := decide_eq_true c5
   clear c5
   by_cases c6 : 0 ≤ x3_1
   rotate_left
   ·rw [if_neg c6] at H
    exact absurd H (by simp)
   rw [if_pos c6] at H
   have c6b0 : decide (0 ≤ x3_1) = true := decide_eq_true c6
   clear c6
   by_cases c7 : (rd l0 (ji3)) ≥ (rd l0 x3_1)
   ·rw [if_pos c7] at H
    have c7b0 : decide ((rd l0 x3_1) ≤ (rd l0 (ji3))) = true := decide_eq_true c7
    clear c7
    obtain rfl := sI H
    have p544 : 0 ≤ ((ji3) : Int) := oA
    have q544 : (ji3) < (l0.length : Int) := oA
    obtain ⟨ad544, e544, hx544_0⟩ := Kd.at_int HR0.out (ji3) p544 q544
    cases e544
    replace p544 := eq_true p544
    replace q544 := eq_true q544
    have p545 : 0 ≤ (x3_1 : Int) := oA
    have q545 : x3_1 < (l0.length : Int) := oA
    obtain ⟨ad545, e545, hx545_0⟩ := Kd.at_int HR0.out x3_1 p545 q545
    obtain rfl : ad544 = ad545 := (by injection e545)
    replace p545 := eq_true p545
    replace q545 := eq_true q545
    go_wp2
    repeat (go_quiet (fail);try go_wp2)
    go_ret
    exact ⟨by first | rfl | (simp;done) | (simp only [← hji3] <;> (first | rfl | simp)) | (simp [*];done), dR⟩
   rw [if_neg c7] at H
   have c7b0 : decide ((rd l0 x3_1) ≤ (rd l0 (ji3))) = false := decide_eq_false c7
   clear c7
   have H' := Aside0.mk H
   clear H
   have p544 : 0 ≤ ((ji3) : Int) := oA
   have q544 : (ji3) < (l0.length : Int) := oA
   obtain ⟨ad544, e544, hx544_0⟩ := Kd.at_int HR0.out (ji3) p544 q544
   cases e544
   replace p544 := eq_true p544
   replace q544 := eq_true q544
   have p545 : 0 ≤ (x3_1 : Int) := oA
   have q545 : x3_1 < (l0.length : Int) := oA
   obtain ⟨ad545, e545, hx545_0⟩ := Kd.at_int HR0.out x3_1 p545 q545
   obtain rfl : ad544 = ad545 := (by injection e545)
   replace p545 := eq_true p545
   replace q545 := eq_true q545
   go_wp2
   repeat (go_quiet (fail);try go_wp2)
   go_roundg k1
   case measure => have := HK1.out;omega
   case rel => exact ⟨(wrap64 (x3_1 + 1)), eF, H', ⟨by have := HK1.out;omega⟩, dR⟩


/-! ### impl_isSet: function 45 -/
def impl_isSet.f (k : Nat) (a0_0 : Int) (l0_1 : List (S78)) (l1 : List Int) : Option (Bool) := (impl_hasNodes.f k a0_0 l0_1 l1).bind fun t547 => (if t547 = true then ((impl_increasing.f k l1).bind fun t548 => (some t548)) else (some false))
theorem impl_isSet.mono : ∀ a0 a1 a2 k, LeO (impl_isSet.f k a0 a1 a2) (impl_isSet.f (k + 1) a0 a1 a2) := by
 intro a0 a1 a2 k
 unfold impl_isSet.f
 have q0 := impl_hasNodes.mono
 have q1 := impl_increasing.mono
 exact lM
theorem impl_isSet.calls (k : Nat) (a0_0 : Int) (A0_1 : Option Addr) (c0_1 : Nat) (l0_1 : List (S78)) (A1 : Option Addr) (c1 : Nat) (l1 : List Int) (r : Bool) (w : World) (hr0_1 : Kd.C k78 w A0_1 l0_1.length l0_1) (hc0_1 : l0_1.length ≤ c0_1) (hr1 : Kd.C (Kd.int .i64) w A1 l1.length l1) (hc1 : l1.length ≤ c1) (h : impl_isSet.f k a0_0 l0_1 l1 = some r) :
  Calls Tryd.prog 45 #[.agg #[.int .i64 a0_0, .slice A0_1 l0_1.length c0_1], .slice A1 l1.length c1] w fun e w' => e = .returned (.bool r) ∧ Below w.heap.size w w' := by
 have hu29 := Tryd.underlying29
 have HR0_1 := Aside0.mk hr0_1
 have HC0_1 := Aside0.mk hc0_1
 clear hr0_1 hc0_1
 have HR1 := Aside0.mk hr1
 have HC1 := Aside0.mk hc1
 clear hr1 hc1
 have HB := aM (Below.refl w.heap.size w)
 have H : ((impl_hasNodes.f k a0_0 l0_1 l1).bind fun t547 => (if t547 = true then ((impl_increasing.f k l1).bind fun t548 => (some t548)) else (some false))) = some r := h
 clear h
 replace H := bE H
 obtain ⟨t547, A30, H⟩ := H
 try dsimp only at H
 have A3 := Aside0.mk A30
 clear A30
 by_cases c4 : t547 = true
 rotate_left
 ·replace c4 := Bool.eq_false_iff.mpr c4
  subst c4
  rw [if_neg fF] at H
  obtain rfl := sI H
  go_enter Tryd.func45, Tryd.ntmps45
  go_wp2_with (first | ((with_reducible refine gate_dst (N := 2) rfl ?_);refine box_event ?hg (N := 2) ?hd (cs := #[.int .i64 a0_0, .slice A0_1 l0_1.length c0_1]) (t := 29) ?hr ?_;(case hd => rfl);(case hg => rfl);(case hr => exact gS);intro gb546 hg w9 hbox hb;have n0_ := aM (below_step (by exact bB) hb);have n1_ := aM (hbox);have n2_ := aM (sW hg : w.heap.size ≤ gb546);have n3_ := aM (sW hg : w.heap.size ≤ gb546);clear HB;have HB := n0_;have BK546 := n1_;have GW546 := n2_;have GE546 := n3_;clear n0_ n1_ n2_ n3_ hb hbox hg;have hcz10_0 := bC0 BK546.out;have hcz10_1 := bC1 BK546.out;have hfz10_0 := blk_frozen BK546.out 0;have hfz10_1 := blk_frozen BK546.out 1) | ((with_reducible refine gate_callee (f := 76) rfl ?_);refine goesL_ (some 7) rfl rfl Tryd.func76 kR rfl #[.agg #[.int .i64 a0_0, .slice A0_1 l0_1.length c0_1], .slice A1 l1.length c1] rfl mM ?_;(with_reducible refine (impl_hasNodes.calls k a0_0 _ _ l0_1 _ _ l1 false _ ?side1 ?side2 ?side3 ?side4 A3.out).mono ?_);(case side1 => exact cP (Kd.C_below HR0_1.out HB.out));(case side2 => exact HC0_1.out);(case side3 => exact cP (Kd.C_below HR1.out HB.out));(case side4 => exact HC1.out);rintro e w11 ⟨rfl, hb⟩;refine ⟨_, rfl, ?_⟩;have n0_ := aM (kB hb BK546.out);have n1_ := aM (below_step (by exact bB) hb);clear BK546 HB;have BK546 := n0_;have HB := n1_;clear n0_ n1_;(try clear hb)))
  go_ret
  exact ⟨eW, by exact bB⟩
 subst c4
 rw [if_pos rfl] at H
 replace H := bE H
 obtain ⟨t548, A50, H⟩ := H
 try dsimp only at H
 have A5 := Aside0.mk A50
 clear A50
 obtain rfl := sI H
 go_enter Tryd.func45, Tryd.ntmps45
 go_wp2_with (first | ((with_reducible refine gate_dst (N := 2) rfl ?_);refine box_event ?hg (N := 2) ?hd (cs := #[.int .i64 a0_0, .slice A0_1 l0_1.length c0_1]) (t := 29) ?hr ?_;(case hd => rfl);(case hg => rfl);(case hr => exact gS);intro gb546 hg w6 hbox hb;have n0_ := aM (below_step (by exact bB) hb);have n1_ := aM (hbox);have n2_ := aM (sW hg : w.heap.size ≤ gb546);have n3_ := aM (sW hg : w.heap.size ≤ gb546);clear HB;have HB := n0_;have BK546 := n1_;have GW546 := n2_;have GE546 := n3_;clear n0_ n1_ n2_ n3_ hb hbox hg;have hcz7_0 := bC0 BK546.out;have hcz7_1 := bC1 BK546.out;have hfz7_0 := blk_frozen BK546.out 0;have hfz7_1 := blk_frozen BK546.out 1) | ((with_reducible refine gate_callee (f := 76) rfl ?_);refine goesL_ (some 7) rfl rfl Tryd.func76 kR rfl #[.agg #[.int .i64 a0_0, .slice A0_1 l0_1.length c0_1], .slice A1 l1.length c1] rfl mM ?_;(with_reducible refine (impl_hasNodes.calls k a0_0 _ _ l0_1 _ _ l1 true _ ?side1 ?side2 ?side3 ?side4 A3.out).mono ?_);(case side1 => exact cP (Kd.C_below HR0_1.out HB.out));(case side2 => exact HC0_1.out);(case side3 => exact cP (Kd.C_below HR1.out HB.out));(case side4 => exact HC1.out);rintro e w8 ⟨rfl, hb⟩;refine ⟨_, rfl, ?_⟩;have n0_ := aM (kB hb BK546.out);have n1_ := aM (below_step (by exact bB) hb);clear BK546 HB;have BK546 := n0_;have HB := n1_;clear n0_ n1_;(try clear hb)) | (go_at_call 77;(with_reducible refine (impl_increasing.calls k _ _ l1 t548 _ ?side1 ?side2 A5.out).mono ?_);(case side1 => exact cP (Kd.C_below HR1.out HB.out));(case side2 => exact HC1.out);rintro e w' ⟨rfl, ⟨nd, rfl⟩⟩))
 go_ret
 exact ⟨eW, by exact bB⟩


/-! ### slices_BinarySearchFunc_int_int_int: function 78 -/
def slices_BinarySearchFunc_int_int_int.l0 : Nat → List (List Int) → List Int → Int → Int → Int → Option (Int × Bool)
 | 0, _, _, _, _, _ => none
 | k + 1, x0, x1, x8, x9, x10 => if x9 < x10 then (if 0 ≤ (wrap64 ((IntKind.u64.wrap (wrap64 (x9 + x10))) / 2)) then (if (wrap64 ((IntKind.u64.wrap (wrap64 (x9 + x10))) / 2)) < (x0.length : Int) then ((slices_Compare_int_int.f k (rd_L2 x0 (wrap64 ((IntKind.u64.wrap (wrap64 (x9 + x10))) / 2))) x1).bind fun t550 => (if t550 < 0 then (slices_BinarySearchFunc_int_int_int.l0 k x0 x1 x8 (wrap64 ((wrap64 ((IntKind.u64.wrap (wrap64 (x9 + x10))) / 2)) + 1)) x10) else (slices_BinarySearchFunc_int_int_int.l0 k x0 x1 x8 x9 (wrap64 ((IntKind.u64.wrap (wrap64 (x9 + x10))) / 2))))) else (none)) else (none)) else (if x9 < x8 then (if 0 ≤ x9 then (if x9 < (x0.length : Int) then ((slices_Compare_int_int.f k (rd_L2 x0 x9) x1).bind fun t552 => (some (x9, (t552 == 0)))) else (none)) else (none)) else (some (x9, false)))
def slices_BinarySearchFunc_int_int_int.f (k : Nat) (l0 : List (List Int)) (l1 : List Int) : Option (Int × Bool) := slices_BinarySearchFunc_int_int_int.l0 k l0 l1 (l0.length : Int) 0 (l0.length : Int)
theorem slices_BinarySearchFunc_int_int_int.mono_l : ∀ k, (∀ y0 y1 y2 y3 y4, LeO (slices_BinarySearchFunc_int_int_int.l0 k y0 y1 y2 y3 y4) (slices_BinarySearchFunc_int_int_int.l0 (k + 1) y0 y1 y2 y3 y4))
 | 0 => fun _ _ _ _ _ r h => by simp [slices_BinarySearchFunc_int_int_int.l0] at h
 | k + 1 => by
  have ih0 := slices_BinarySearchFunc_int_int_int.mono_l k
  ·intro y0 y1 y2 y3 y4
   unfold slices_BinarySearchFunc_int_int_int.l0
   have q0 := slices_Compare_int_int.mono
   exact lM
theorem slices_BinarySearchFunc_int_int_int.mono : ∀ a0 a1 k, LeO (slices_BinarySearchFunc_int_int_int.f k a0 a1) (slices_BinarySearchFunc_int_int_int.f (k + 1) a0 a1) := by
 intro a0 a1 k
 have ih0 := slices_BinarySearchFunc_int_int_int.mono_l k
 unfold slices_BinarySearchFunc_int_int_int.f
 have q0 := slices_Compare_int_int.mono
 exact lM
theorem slices_BinarySearchFunc_int_int_int.calls (k : Nat) (A0 : Option Addr) (c0 : Nat) (l0 : List (List Int)) (A1 : Option Addr) (c1 : Nat) (l1 : List Int) (r1 : Int) (r2 : Bool) (w : World) (hr0 : Kd.C (Kd.slice 3 (Kd.int .i64)) w A0 l0.length l0) (hc0 : l0.length ≤ c0) (hr1 : Kd.C (Kd.int .i64) w A1 l1.length l1) (hc1 : l1.length ≤ c1) (h : slices_BinarySearchFunc_int_int_int.f k l0 l1 = some (r1, r2)) :
  Calls Tryd.prog 78 #[.slice A0 l0.length c0, .slice A1 l1.length c1, .func (.func 59) #[] #[]] w fun e w' => e = .returned (.tuple #[.int .i64 r1, .bool r2]) ∧ Drawn0 w w' := by
 have HR0 := Aside0.mk hr0
 have HC0 := Aside0.mk hc0
 clear hr0 hc0
 have HR1 := Aside0.mk hr1
 have HC1 := Aside0.mk hc1
 clear hr1 hc1
 have H : (slices_BinarySearchFunc_int_int_int.l0 k l0 l1 (l0.length : Int) 0 (l0.length : Int)) = some (r1, r2) := h
 clear h
 have H' := Aside0.mk H
 clear H
 have eg := enters_of Tryd.func59 kR rfl
 go_enter Tryd.func78, Tryd.ntmps78
 go_wp2
 go_loopg [9, 10] k (fun kq v9 v10 w' => ∃ (x9_1 : Int) (x10_1 : Int), v9 = .int .i64 x9_1 ∧ v10 = .int .i64 x10_1 ∧ Aside0 (slices_BinarySearchFunc_int_int_int.l0 kq l0 l1 (l0.length : Int) x9_1 x10_1 = some (r1, r2)) ∧ Aside0 (kq ≤ k) ∧ Drawn0 w w')
 case atStart => exact ⟨(0), ((l0.length : Int)), eF, eF, H', ⟨Nat.le_refl _⟩, dR⟩
 case round =>
  clear H'
  try clear c1
  try clear p2
  obtain ⟨x9_1, x10_1, rfl, rfl, HA, HK1, ⟨m1, rfl⟩⟩ := hrel
  cases gk with
  | zero => exact absurd HA.out (by simp [slices_BinarySearchFunc_int_int_int.l0])
  | succ k1 =>
   have H := HA.out
   clear HA
   simp only [slices_BinarySearchFunc_int_int_int.l0] at H
   by_cases c3 : x9_1 < x10_1
   rotate_left
   ·rw [if_neg c3] at H
    have c3b0 : decide (x9_1 < x10_1) = false := decide_eq_false c3
    clear c3
    by_cases c9 : x9_1 < (l0.length : Int)
    rotate_left
    ·rw [if_neg c9] at H
     have c9b0 : decide (x9_1 < (l0.length : Int)) = false := decide_eq_false c9
     clear c9
     simp only [Option.some.injEq, Prod.mk.injEq] at H
     obtain ⟨rfl, rfl⟩ := H
     go_wp2
     go_ret2
     exact ⟨eF, dR⟩
    rw [if_pos c9] at H
    have c9b0 : decide (x9_1 < (l0.length : Int)) = true := decide_eq_true c9
    clear c9
    by_cases c10 : 0 ≤ x9_1
    rotate_left
    ·rw [if_neg c10] at H
     exact absurd H (by simp)
    rw [if_pos c10] at H
    have c10b0 : decide (0 ≤ x9_1) = true := decide_eq_true c10
    clear c10
    by_cases c11 : x9_1 < (l0.length : Int)
    rotate_left
    ·rw [if_neg c11] at H
     exact absurd H (by simp)
    rw [if_pos c11] at H
    have c11b0 : decide (x9_1 < (l0.length : Int)) = true := decide_eq_true c11
    clear c11
    replace H := bE H
    obtain ⟨t552, A120, H⟩ := H
    try dsimp only at H
    have A12 := Aside0.mk A120
    clear A120
    simp only [Option.some.injEq, Prod.mk.injEq] at H
    obtain ⟨rfl, rfl⟩ := H
    have p551 : 0 ≤ (x9_1 : Int) := oA
    have q551 : x9_1 < (l0.length : Int) := oA
    obtain ⟨ad551, A551_0, c551_0, e551, hx551_0, hl551_0, hi551_0⟩ := at_L2 HR0.out x9_1 p551 q551
    cases e551
    have HR551_0 := Aside0.mk hi551_0
    have HC551_0 := Aside0.mk hl551_0
    clear hi551_0 hl551_0
    replace p551 := eq_true p551
    replace q551 := eq_true q551
    go_wp2_with (first | (go_at_call 59;(with_reducible refine (slices_Compare_int_int.calls k1 _ _ (rd_L2 l0 x9_1) _ _ l1 t552 _ ?side1 ?side2 ?side3 ?side4 A12.out).mono ?_);(case side1 => exact cP HR551_0.out);(case side2 => exact HC551_0.out);(case side3 => exact cP HR1.out);(case side4 => exact HC1.out);rintro e w' ⟨rfl, ⟨nd, rfl⟩⟩))
    go_ret2
    exact ⟨eF, dR⟩
   rw [if_pos c3] at H
   have c3b0 : decide (x9_1 < x10_1) = true := decide_eq_true c3
   clear c3
   obtain ⟨ji4, hji4⟩ : ∃ j_ : Int, (wrap64 ((IntKind.u64.wrap (wrap64 (x9_1 + x10_1))) / 2)) = j_ := ⟨_, rfl⟩
   replace H : (if 0 ≤ (ji4) then (if (ji4) < (l0.length : Int) then ((slices_Compare_int_int.f k1 (rd_L2 l0 (ji4)) l1).bind fun t550 => (if t550 < 0 then (slices_BinarySearchFunc_int_int_int.l0 k1 l0 l1 (l0.length : Int) (wrap64 ((ji4) + 1)) x10_1) else (slices_BinarySearchFunc_int_int_int.l0 k1 l0 l1 (l0.length : Int) x9_1 ji4))) else (none)) else (none)) = some (r1, r2) := by first | (rw [hji4] at H;exact H) | (simp only [hji4] at H ⊢;exact H)
   have hji4w : (IntKind.i64.wrap ((IntKind.u64.wrap (wrap64 (x9_1 + x10_1))) / 2)) = ji4 := (i64_w _).trans hji4
   by_cases c5 : 0 ≤ (ji4)
   rotate_left
   ·rw [if_neg c5] at H
    exact absurd H (by simp)
   rw [if_pos c5] at H
   have c5b0 : decide (0 ≤ (ji4)) = true := decide_eq_true c5
   clear c5
   by_cases c6 : (ji4) < (l0.length : Int)
   rotate_left
   ·rw [if_neg c6] at H
    exact absurd H (by simp)
   rw [if_pos c6] at H
   have c6b0 : decide ((ji4) < (l0.length : Int)) = true := decide_eq_true c6
   clear c6
   replace H := bE H
   obtain ⟨t550, A70, H⟩ := H
   try dsimp only at H
   have A7 := Aside0.mk A70
   clear A70
   by_cases c8 : t550 < 0
   rotate_left
   ·rw [if_neg c8] at H
    have c8b0 : decide (t550 < 0) = false := decide_eq_false c8
    clear c8
    have H' := Aside0.mk H
    clear H
    have p549 : 0 ≤ ((ji4) : Int) := oA
    have q549 : (ji4) < (l0.length : Int) := oA
    obtain ⟨ad549, A549_0, c549_0, e549, hx549_0, hl549_0, hi549_0⟩ := at_L2 HR0.out (ji4) p549 q549
    cases e549
    have HR549_0 := Aside0.mk hi549_0
    have HC549_0 := Aside0.mk hl549_0
    clear hi549_0 hl549_0
    replace p549 := eq_true p549
    replace q549 := eq_true q549
    go_wp2_with (first | (go_at_call 59;(with_reducible refine (slices_Compare_int_int.calls k1 _ _ (rd_L2 l0 (ji4)) _ _ l1 t550 _ ?side1 ?side2 ?side3 ?side4 A7.out).mono ?_);(case side1 => exact cP HR549_0.out);(case side2 => exact HC549_0.out);(case side3 => exact cP HR1.out);(case side4 => exact HC1.out);rintro e w' ⟨rfl, ⟨nd, rfl⟩⟩))
    go_roundg k1
    case measure => have := HK1.out;omega
    case rel => exact ⟨(x9_1), (ji4), eF, (by first | rfl | (simp;done) | (simp only [← hji4] <;> (first | rfl | simp)) | (simp [*];done)), H', ⟨by have := HK1.out;omega⟩, dR⟩
   rw [if_pos c8] at H
   have c8b0 : decide (t550 < 0) = true := decide_eq_true c8
   clear c8
   have H' := Aside0.mk H
   clear H
   have p549 : 0 ≤ ((ji4) : Int) := oA
   have q549 : (ji4) < (l0.length : Int) := oA
   obtain ⟨ad549, A549_0, c549_0, e549, hx549_0, hl549_0, hi549_0⟩ := at_L2 HR0.out (ji4) p549 q549
   cases e549
   have HR549_0 := Aside0.mk hi549_0
   have HC549_0 := Aside0.mk hl549_0
   clear hi549_0 hl549_0
   replace p549 := eq_true p549
   replace q549 := eq_true q549
   go_wp2_with (first | (go_at_call 59;(with_reducible refine (slices_Compare_int_int.calls k1 _ _ (rd_L2 l0 (ji4)) _ _ l1 t550 _ ?side1 ?side2 ?side3 ?side4 A7.out).mono ?_);(case side1 => exact cP HR549_0.out);(case side2 => exact HC549_0.out);(case side3 => exact cP HR1.out);(case side4 => exact HC1.out);rintro e w' ⟨rfl, ⟨nd, rfl⟩⟩))
   go_roundg k1
   case measure => have := HK1.out;omega
   case rel => exact ⟨(wrap64 ((ji4) + 1)), (x10_1), (by first | rfl | (simp;done) | (simp only [← hji4] <;> (first | rfl | simp)) | (simp [*];done)), eF, H', ⟨by have := HK1.out;omega⟩, dR⟩


/-! ### impl_endless: function 49 -/
def impl_endless.f (a0 : Int) : Option (Int) := if a0 < 0 then (some 1000000) else (some a0)
theorem impl_endless.calls (a0 : Int) (r : Int) (w : World) (h : impl_endless.f a0 = some r) :
  Calls Tryd.prog 49 #[.int .i64 a0] w fun e w' => e = .returned (.int .i64 r) ∧ Drawn0 w w' := by
 have H : (if a0 < 0 then (some 1000000) else (some a0)) = some r := h
 clear h
 by_cases c2 : a0 < 0
 rotate_left
 ·rw [if_neg c2] at H
  have c2b0 : decide (a0 < 0) = false := decide_eq_false c2
  clear c2
  obtain rfl := sI H
  go_enter Tryd.func49, Tryd.ntmps49
  go_wp2
  go_ret
  exact ⟨eF, dR⟩
 rw [if_pos c2] at H
 have c2b0 : decide (a0 < 0) = true := decide_eq_true c2
 clear c2
 obtain rfl := sI H
 go_enter Tryd.func49, Tryd.ntmps49
 go_wp2
 go_ret
 exact ⟨eF, dR⟩


/-! ### impl_guardGame_bestAnswer: function 54 -/
def impl_guardGame_bestAnswer.l0 : Nat → List Int → Int → List Int → Int → Int → Int → List (List Int) → List (List Int) → Option (Int × Int)
 | 0, _, _, _, _, _, _, _, _ => none
 | k + 1, x1, x9, x15, x16, x17, x1000, x1001, x1002 => if x17 < x16 then (if 0 ≤ x17 then (if x17 < (x15.length : Int) then (if x9 < 0 then (impl_guardGame_bestAnswer.l0 k x1 (rd x15 x17) x15 x16 (wrap64 (x17 + 1)) x1000 x1001 x1002) else (if 0 ≤ (rd x15 x17) then (if (rd x15 x17) < (x1.length : Int) then ((impl_endless.f (rd x1 (rd x15 x17))).bind fun t561 => (if 0 ≤ x9 then (if x9 < (x1.length : Int) then ((impl_endless.f (rd x1 x9)).bind fun t563 => (if t561 > t563 then (impl_guardGame_bestAnswer.l0 k x1 (rd x15 x17) x15 x16 (wrap64 (x17 + 1)) x1000 x1001 x1002) else (impl_guardGame_bestAnswer.l0 k x1 x9 x15 x16 (wrap64 (x17 + 1)) x1000 x1001 x1002))) else (none)) else (none))) else (none)) else (none))) else (none)) else (none)) else (some (x9, x1000))
def impl_guardGame_bestAnswer.f (k : Nat) (s0_0 : Int) (s0_1 : List (List Int)) (s0_2 : List (List Int)) (l1 : List Int) (a2 : Int) (a3 : Int) : Option (Int × Int) := (impl_guardGame_answers.f s0_0 s0_1 s0_2 a2 a3).bind fun bt555 => (impl_guardGame_bestAnswer.l0 k l1 (-1) bt555.1 (bt555.1.length : Int) 0 bt555.2 s0_1 s0_2)
theorem impl_guardGame_bestAnswer.mono_l : ∀ k, (∀ y0 y1 y2 y3 y4 y5 y6 y7, LeO (impl_guardGame_bestAnswer.l0 k y0 y1 y2 y3 y4 y5 y6 y7) (impl_guardGame_bestAnswer.l0 (k + 1) y0 y1 y2 y3 y4 y5 y6 y7))
 | 0 => fun _ _ _ _ _ _ _ _ r h => by simp [impl_guardGame_bestAnswer.l0] at h
 | k + 1 => by
  have ih0 := impl_guardGame_bestAnswer.mono_l k
  ·intro y0 y1 y2 y3 y4 y5 y6 y7
   unfold impl_guardGame_bestAnswer.l0
   exact lM
theorem impl_guardGame_bestAnswer.mono : ∀ a0 a1 a2 a3 a4 a5 k, LeO (impl_guardGame_bestAnswer.f k a0 a1 a2 a3 a4 a5) (impl_guardGame_bestAnswer.f (k + 1) a0 a1 a2 a3 a4 a5) := by
 intro a0 a1 a2 a3 a4 a5 k
 have ih0 := impl_guardGame_bestAnswer.mono_l k
 unfold impl_guardGame_bestAnswer.f
 exact lM
theorem impl_guardGame_bestAnswer.calls (k : Nat) (g : Nat) (s0_0 : Int) (s0_1 : List (List Int)) (s0_2 : List (List Int)) (A1 : Option Addr) (c1 : Nat) (l1 : List Int) (a2 : Int) (a3 : Int) (r1 : Int) (r2 : Int) (w0 w : World) (hI : IsS61 w0 w g s0_0 s0_1 s0_2) (hB : Below w0.heap.size w0 w) (hr1 : Kd.C (Kd.int .i64) w A1 l1.length l1) (hc1 : l1.length ≤ c1) (hf1 : ∀ ad, A1 = some ad → 0 < l1.length → ad.block ≠ g) (h : impl_guardGame_bestAnswer.f k s0_0 s0_1 s0_2 l1 a2 a3 = some (r1, r2)) :
  Calls Tryd.prog 54 #[.pointer (some ⟨g, 0, none⟩), .slice A1 l1.length c1, .int .i64 a2, .int .i64 a3] w fun e w' => e = .returned (.int .i64 r1) ∧ IsS61 w0 w' g r2 s0_1 s0_2 ∧ Below w0.heap.size w0 w' ∧ KeepBut w w' g none := by
 have HR1 := Aside0.mk hr1
 have HC1 := Aside0.mk hc1
 clear hr1 hc1
 have HI0 := Aside0.mk hI
 have HK := aM (KeepBut.refl w g none)
 have HL := Aside0.mk hB.size
 clear hI
 have HW0 := Aside0.mk hB.size
 have HB := Aside0.mk hB
 clear hB
 have H : ((impl_guardGame_answers.f s0_0 s0_1 s0_2 a2 a3).bind fun bt555 => (impl_guardGame_bestAnswer.l0 k l1 (-1) bt555.1 (bt555.1.length : Int) 0 bt555.2 s0_1 s0_2)) = some (r1, r2) := h
 clear h
 replace H := bE H
 obtain ⟨⟨t555, t558⟩, A50, H⟩ := H
 try dsimp only at H
 have A5 := Aside0.mk A50
 clear A50
 have H' := Aside0.mk H
 clear H
 go_enter Tryd.func54, Tryd.ntmps54
 go_wp2_with (first | (go_at_call 48;(with_reducible refine (impl_guardGame_answers.calls g s0_0 s0_1 s0_2 a2 a3 t555 t558 w0 _ ?side1 ?side2 A5.out).mono ?_);(case side1 => exact sS);(case side2 => exact bB);rintro e w6 ⟨v556, rfl, ho0, hi, hb, hk⟩;have n0_ := aM (Kd.R_lower ho0 (keep_size (w := w) (g := g) (row := none) (by exact kK)));have n1_ := aM (KeepBut.trans (by exact kK) hk (.inl rfl));have n2_ := aM (hb);have n3_ := aM (hi);clear HK HB HI0;have HO557 := n0_;have HK := n1_;have HB := n2_;have HI0 := n3_;clear n0_ n1_ n2_ n3_;(try clear hb);(try clear hk);(try clear hi);(try clear ho0);obtain ⟨Ao7, co7, eo7⟩ := Kd.R_slice HO557.out;subst eo7))
 repeat (go_quiet (first | (go_at_call 48;(with_reducible refine (impl_guardGame_answers.calls g s0_0 s0_1 s0_2 a2 a3 t555 t558 w0 _ ?side1 ?side2 A5.out).mono ?_);(case side1 => exact sS);(case side2 => exact bB);rintro e w6 ⟨v556, rfl, ho0, hi, hb, hk⟩;have n0_ := aM (Kd.R_lower ho0 (keep_size (w := w) (g := g) (row := none) (by exact kK)));have n1_ := aM (KeepBut.trans (by exact kK) hk (.inl rfl));have n2_ := aM (hb);have n3_ := aM (hi);clear HK HB HI0;have HO557 := n0_;have HK := n1_;have HB := n2_;have HI0 := n3_;clear n0_ n1_ n2_ n3_;(try clear hb);(try clear hk);(try clear hi);(try clear ho0);obtain ⟨Ao7, co7, eo7⟩ := Kd.R_slice HO557.out;subst eo7));try go_wp2_with (first | (go_at_call 48;(with_reducible refine (impl_guardGame_answers.calls g s0_0 s0_1 s0_2 a2 a3 t555 t558 w0 _ ?side1 ?side2 A5.out).mono ?_);(case side1 => exact sS);(case side2 => exact bB);rintro e w6 ⟨v556, rfl, ho0, hi, hb, hk⟩;have n0_ := aM (Kd.R_lower ho0 (keep_size (w := w) (g := g) (row := none) (by exact kK)));have n1_ := aM (KeepBut.trans (by exact kK) hk (.inl rfl));have n2_ := aM (hb);have n3_ := aM (hi);clear HK HB HI0;have HO557 := n0_;have HK := n1_;have HB := n2_;have HI0 := n3_;clear n0_ n1_ n2_ n3_;(try clear hb);(try clear hk);(try clear hi);(try clear ho0);obtain ⟨Ao7, co7, eo7⟩ := Kd.R_slice HO557.out;subst eo7)))
 go_loopg [9, 17] k (fun kq v9 v17 w' => ∃ (x9_1 : Int) (x17_1 : Int), v9 = .int .i64 x9_1 ∧ v17 = .int .i64 x17_1 ∧ Aside0 (impl_guardGame_bestAnswer.l0 kq l1 x9_1 t555 (t555.length : Int) x17_1 t558 s0_1 s0_2 = some (r1, r2)) ∧ Aside0 (kq ≤ k) ∧ Aside0 (Kd.R (Kd.int .i64) 3 w' w.heap.size (fun _ => True) (.slice Ao7 t555.length co7) t555) ∧ Aside0 (IsS61 w0 w' g t558 s0_1 s0_2) ∧ Aside0 (KeepBut w w' g none) ∧ Aside0 (Below w0.heap.size w0 w'))
 case atStart => exact ⟨((-1)), (0), eF, eF, H', ⟨Nat.le_refl _⟩, ⟨by exact rP HO557.out⟩, ⟨by exact sS⟩, ⟨by exact kK⟩, ⟨by exact bB⟩⟩
 case round =>
  clear H'
  try clear c1
  try clear p2
  try clear c5
  obtain ⟨x9_1, x17_1, rfl, rfl, HA, HK1, HO_15, HI0, HK, HB⟩ := hrel
  cases gk with
  | zero => exact absurd HA.out (by simp [impl_guardGame_bestAnswer.l0])
  | succ k1 =>
   have H := HA.out
   clear HA
   simp only [impl_guardGame_bestAnswer.l0] at H
   by_cases c8 : x17_1 < (t555.length : Int)
   rotate_left
   ·rw [if_neg c8] at H
    have c8b0 : decide (x17_1 < (t555.length : Int)) = false := decide_eq_false c8
    clear c8
    simp only [Option.some.injEq, Prod.mk.injEq] at H
    obtain ⟨rfl, rfl⟩ := H
    go_wp2
    repeat (go_quiet (fail);try go_wp2)
    go_ret
    exact ⟨eW, by exact sS, by exact bB, by exact kK⟩
   rw [if_pos c8] at H
   have c8b0 : decide (x17_1 < (t555.length : Int)) = true := decide_eq_true c8
   clear c8
   by_cases c9 : 0 ≤ x17_1
   rotate_left
   ·rw [if_neg c9] at H
    exact absurd H (by simp)
   rw [if_pos c9] at H
   have c9b0 : decide (0 ≤ x17_1) = true := decide_eq_true c9
   clear c9
   by_cases c10 : x17_1 < (t555.length : Int)
   rotate_left
   ·rw [if_neg c10] at H
    exact absurd H (by simp)
   rw [if_pos c10] at H
   have c10b0 : decide (x17_1 < (t555.length : Int)) = true := decide_eq_true c10
   clear c10
   by_cases c11 : x9_1 < 0
   ·rw [if_pos c11] at H
    have c11b0 : decide (x9_1 < 0) = true := decide_eq_true c11
    clear c11
    have H' := Aside0.mk H
    clear H
    have p559 : 0 ≤ (x17_1 : Int) := oA
    have q559 : x17_1 < (t555.length : Int) := oA
    obtain ⟨ad559, e559, hx559_0⟩ := Kd.at_int (Kd.R_reads' HO_15.out).2.2 x17_1 p559 q559
    cases e559
    replace p559 := eq_true p559
    replace q559 := eq_true q559
    go_wp2
    repeat (go_quiet (fail);try go_wp2)
    go_roundg k1
    case measure => have := HK1.out;omega
    case rel => exact ⟨(rd t555 x17_1), (wrap64 (x17_1 + 1)), eF, eF, H', ⟨by have := HK1.out;omega⟩, ⟨by exact rP HO_15.out⟩, ⟨by exact sS⟩, ⟨by exact kK⟩, ⟨by exact bB⟩⟩
   rw [if_neg c11] at H
   have c11b0 : decide (x9_1 < 0) = false := decide_eq_false c11
   clear c11
   by_cases c12 : 0 ≤ (rd t555 x17_1)
   rotate_left
   ·rw [if_neg c12] at H
    exact absurd H (by simp)
   rw [if_pos c12] at H
   have c12b0 : decide (0 ≤ (rd t555 x17_1)) = true := decide_eq_true c12
   clear c12
   by_cases c13 : (rd t555 x17_1) < (l1.length : Int)
   rotate_left
   ·rw [if_neg c13] at H
    exact absurd H (by simp)
   rw [if_pos c13] at H
   have c13b0 : decide ((rd t555 x17_1) < (l1.length : Int)) = true := decide_eq_true c13
   clear c13
   replace H := bE H
   obtain ⟨t561, A140, H⟩ := H
   try dsimp only at H
   have A14 := Aside0.mk A140
   clear A140
   by_cases c15 : 0 ≤ x9_1
   rotate_left
   ·rw [if_neg c15] at H
    exact absurd H (by simp)
   rw [if_pos c15] at H
   have c15b0 : decide (0 ≤ x9_1) = true := decide_eq_true c15
   clear c15
   by_cases c16 : x9_1 < (l1.length : Int)
   rotate_left
   ·rw [if_neg c16] at H
    exact absurd H (by simp)
   rw [if_pos c16] at H
   have c16b0 : decide (x9_1 < (l1.length : Int)) = true := decide_eq_true c16
   clear c16
   replace H := bE H
   obtain ⟨t563, A170, H⟩ := H
   try dsimp only at H
   have A17 := Aside0.mk A170
   clear A170
   by_cases c18 : t561 > t563
   rotate_left
   ·rw [if_neg c18] at H
    have c18b0 : decide (t563 < t561) = false := decide_eq_false c18
    clear c18
    have H' := Aside0.mk H
    clear H
    have p559 : 0 ≤ (x17_1 : Int) := oA
    have q559 : x17_1 < (t555.length : Int) := oA
    obtain ⟨ad559, e559, hx559_0⟩ := Kd.at_int (Kd.R_reads' HO_15.out).2.2 x17_1 p559 q559
    cases e559
    replace p559 := eq_true p559
    replace q559 := eq_true q559
    have p560 : 0 ≤ ((rd t555 x17_1) : Int) := oA
    have q560 : (rd t555 x17_1) < (l1.length : Int) := oA
    obtain ⟨ad560, e560, hx560_0⟩ := Kd.at_int HR1.out (rd t555 x17_1) p560 q560
    cases e560
    replace hx560_0 := keep_cell HK.out hx560_0 (by first | (rw [add_block];exact hf1 _ rfl (by omega)) | exact hf1 _ rfl (by omega) | exact hf1 ad560 rfl (by omega))
    replace p560 := eq_true p560
    replace q560 := eq_true q560
    go_wp2_with (first | (go_at_call 49;(with_reducible refine (impl_endless.calls (rd l1 (rd t555 x17_1)) t561 _ A14.out).mono ?_);rintro e w' ⟨rfl, ⟨nd, rfl⟩⟩;(try first | exact ⟨rfl, _, World.drewN_drewN _ _ _⟩ | exact ⟨rfl, _, dA⟩);have p562 : 0 ≤ (x9_1 : Int) := oA;have q562 : x9_1 < (l1.length : Int) := oA;obtain ⟨ad562, e562, hx562_0⟩ := Kd.at_int HR1.out x9_1 p562 q562;obtain rfl : ad560 = ad562 := (by injection e562);replace hx562_0 := keep_cell HK.out hx562_0 (by first | (rw [add_block];exact hf1 _ rfl (by omega)) | exact hf1 _ rfl (by omega) | exact hf1 ad560 rfl (by omega));replace p562 := eq_true p562;replace q562 := eq_true q562) | (go_at_call 49;(with_reducible refine (impl_endless.calls (rd l1 x9_1) t563 _ A17.out).mono ?_);rintro e w' ⟨rfl, ⟨nd, rfl⟩⟩;(try first | exact ⟨rfl, _, World.drewN_drewN _ _ _⟩ | exact ⟨rfl, _, dA⟩)))
    repeat (go_quiet (first | (go_at_call 49;(with_reducible refine (impl_endless.calls (rd l1 (rd t555 x17_1)) t561 _ A14.out).mono ?_);rintro e w' ⟨rfl, ⟨nd, rfl⟩⟩;(try first | exact ⟨rfl, _, World.drewN_drewN _ _ _⟩ | exact ⟨rfl, _, dA⟩);have p562 : 0 ≤ (x9_1 : Int) := oA;have q562 : x9_1 < (l1.length : Int) := oA;obtain ⟨ad562, e562, hx562_0⟩ := Kd.at_int HR1.out x9_1 p562 q562;obtain rfl : ad560 = ad562 := (by injection e562);replace hx562_0 := keep_cell HK.out hx562_0 (by first | (rw [add_block];exact hf1 _ rfl (by omega)) | exact hf1 _ rfl (by omega) | exact hf1 ad560 rfl (by omega));replace p562 := eq_true p562;replace q562 := eq_true q562) | (go_at_call 49;(with_reducible refine (impl_endless.calls (rd l1 x9_1) t563 _ A17.out).mono ?_);rintro e w' ⟨rfl, ⟨nd, rfl⟩⟩;(try first | exact ⟨rfl, _, World.drewN_drewN _ _ _⟩ | exact ⟨rfl, _, dA⟩)));try go_wp2_with (first | (go_at_call 49;(with_reducible refine (impl_endless.calls (rd l1 (rd t555 x17_1)) t561 _ A14.out).mono ?_);rintro e w' ⟨rfl, ⟨nd, rfl⟩⟩;(try first | exact ⟨rfl, _, World.drewN_drewN _ _ _⟩ | exact ⟨rfl, _, dA⟩);have p562 : 0 ≤ (x9_1 : Int) := oA;have q562 : x9_1 < (l1.length : Int) := oA;obtain ⟨ad562, e562, hx562_0⟩ := Kd.at_int HR1.out x9_1 p562 q562;obtain rfl : ad560 = ad562 := (by injection e562);replace hx562_0 := keep_cell HK.out hx562_0 (by first | (rw [add_block];exact hf1 _ rfl (by omega)) | exact hf1 _ rfl (by omega) | exact hf1 ad560 rfl (by omega));replace p562 := eq_true p562;replace q562 := eq_true q562) | (go_at_call 49;(with_reducible refine (impl_endless.calls (rd l1 x9_1) t563 _ A17.out).mono ?_);rintro e w' ⟨rfl, ⟨nd, rfl⟩⟩;(try first | exact ⟨rfl, _, World.drewN_drewN _ _ _⟩ | exact ⟨rfl, _, dA⟩))))
    go_roundg k1
    case measure => have := HK1.out;omega
    case rel => exact ⟨(x9_1), (wrap64 (x17_1 + 1)), eF, eF, H', ⟨by have := HK1.out;omega⟩, ⟨by exact rP HO_15.out⟩, ⟨by exact sS⟩, ⟨by exact kK⟩, ⟨by exact bB⟩⟩
   rw [if_pos c18] at H
   have c18b0 : decide (t563 < t561) = true := decide_eq_true c18
   clear c18
   have H' := Aside0.mk H
   clear H
   have p559 : 0 ≤ (x17_1 : Int) := oA
   have q559 : x17_1 < (t555.length : Int) := oA
   obtain ⟨ad559, e559, hx559_0⟩ := Kd.at_int (Kd.R_reads' HO_15.out).2.2 x17_1 p559 q559
   cases e559
   replace p559 := eq_true p559
   replace q559 := eq_true q559
   have p560 : 0 ≤ ((rd t555 x17_1) : Int) := oA
   have q560 : (rd t555 x17_1) < (l1.length : Int) := oA
   obtain ⟨ad560, e560, hx560_0⟩ := Kd.at_int HR1.out (rd t555 x17_1) p560 q560
   cases e560
   replace hx560_0 := keep_cell HK.out hx560_0 (by first | (rw [add_block];exact hf1 _ rfl (by omega)) | exact hf1 _ rfl (by omega) | exact hf1 ad560 rfl (by omega))
   replace p560 := eq_true p560
   replace q560 := eq_true q560
   go_wp2_with (first | (go_at_call 49;(with_reducible refine (impl_endless.calls (rd l1 (rd t555 x17_1)) t561 _ A14.out).mono ?_);rintro e w' ⟨rfl, ⟨nd, rfl⟩⟩;(try first | exact ⟨rfl, _, World.drewN_drewN _ _ _⟩ | exact ⟨rfl, _, dA⟩);have p562 : 0 ≤ (x9_1 : Int) := oA;have q562 : x9_1 < (l1.length : Int) := oA;obtain ⟨ad562, e562, hx562_0⟩ := Kd.at_int HR1.out x9_1 p562 q562;obtain rfl : ad560 = ad562 := (by injection e562);replace hx562_0 := keep_cell HK.out hx562_0 (by first | (rw [add_block];exact hf1 _ rfl (by omega)) | exact hf1 _ rfl (by omega) | exact hf1 ad560 rfl (by omega));replace p562 := eq_true p562;replace q562 := eq_true q562) | (go_at_call 49;(with_reducible refine (impl_endless.calls (rd l1 x9_1) t563 _ A17.out).mono ?_);rintro e w' ⟨rfl, ⟨nd, rfl⟩⟩;(try first | exact ⟨rfl, _, World.drewN_drewN _ _ _⟩ | exact ⟨rfl, _, dA⟩)))
   repeat (go_quiet (first | (go_at_call 49;(with_reducible refine (impl_endless.calls (rd l1 (rd t555 x17_1)) t561 _ A14.out).mono ?_);rintro e w' ⟨rfl, ⟨nd, rfl⟩⟩;(try first | exact ⟨rfl, _, World.drewN_drewN _ _ _⟩ | exact ⟨rfl, _, dA⟩);have p562 : 0 ≤ (x9_1 : Int) := oA;have q562 : x9_1 < (l1.length : Int) := oA;obtain ⟨ad562, e562, hx562_0⟩ := Kd.at_int HR1.out x9_1 p562 q562;obtain rfl : ad560 = ad562 := (by injection e562);replace hx562_0 := keep_cell HK.out hx562_0 (by first | (rw [add_block];exact hf1 _ rfl (by omega)) | exact hf1 _ rfl (by omega) | exact hf1 ad560 rfl (by omega));replace p562 := eq_true p562;replace q562 := eq_true q562) | (go_at_call 49;(with_reducible refine (impl_endless.calls (rd l1 x9_1) t563 _ A17.out).mono ?_);rintro e w' ⟨rfl, ⟨nd, rfl⟩⟩;(try first | exact ⟨rfl, _, World.drewN_drewN _ _ _⟩ | exact ⟨rfl, _, dA⟩)));try go_wp2_with (first | (go_at_call 49;(with_reducible refine (impl_endless.calls (rd l1 (rd t555 x17_1)) t561 _ A14.out).mono ?_);rintro e w' ⟨rfl, ⟨nd, rfl⟩⟩;(try first | exact ⟨rfl, _, World.drewN_drewN _ _ _⟩ | exact ⟨rfl, _, dA⟩);have p562 : 0 ≤ (x9_1 : Int) := oA;have q562 : x9_1 < (l1.length : Int) := oA;obtain ⟨ad562, e562, hx562_0⟩ := Kd.at_int HR1.out x9_1 p562 q562;obtain rfl : ad560 = ad562 := (by injection e562);replace hx562_0 := keep_cell HK.out hx562_0 (by first | (rw [add_block];exact hf1 _ rfl (by omega)) | exact hf1 _ rfl (by omega) | exact hf1 ad560 rfl (by omega));replace p562 := eq_true p562;replace q562 := eq_true q562) | (go_at_call 49;(with_reducible refine (impl_endless.calls (rd l1 x9_1) t563 _ A17.out).mono ?_);rintro e w' ⟨rfl, ⟨nd, rfl⟩⟩;(try first | exact ⟨rfl, _, World.drewN_drewN _ _ _⟩ | exact ⟨rfl, _, dA⟩))))
   go_roundg k1
   case measure => have := HK1.out;omega
   case rel => exact ⟨(rd t555 x17_1), (wrap64 (x17_1 + 1)), eF, eF, H', ⟨by have := HK1.out;omega⟩, ⟨by exact rP HO_15.out⟩, ⟨by exact sS⟩, ⟨by exact kK⟩, ⟨by exact bB⟩⟩


/-! ### impl_valResist: by hand -/
def impl_valResist.f (k : Nat) (n : Int) (s m : List (List Int)) : Option (List Int) := (impl_guardGame_resist.f k n s m).bind fun r => some r.1
theorem impl_valResist.mono : ∀ a0 a1 a2 k, LeO (impl_valResist.f k a0 a1 a2) (impl_valResist.f (k + 1) a0 a1 a2) := by
 intro a0 a1 a2 k
 unfold impl_valResist.f
 exact LeO.bind (impl_guardGame_resist.mono _ _ _ _) (fun r => LeO.refl _)
theorem impl_valResist.calls (gb k : Nat) (n : Int) (A1 : Option Addr) (c1 : Nat) (s : List (List Int)) (A2 : Option Addr) (c2 : Nat) (m : List (List Int)) (r : List Int) (w : World) (hr1 : Kd.C (Kd.slice 3 (Kd.int .i64)) w A1 s.length s) (_hc1 : s.length ≤ c1) (hr2 : Kd.C (Kd.slice 3 (Kd.int .i64)) w A2 m.length m) (_hc2 : m.length ≤ c2) (h : impl_valResist.f k n s m = some r) (hbx : w.heap[gb]? = some (.cells #[.int .i64 n, .slice A1 s.length c1, .slice A2 m.length c2] 61 (0, 0))) :
  Calls Tryd.prog 34 #[.pointer (some ⟨gb, 0, none⟩)] w fun e w' => ∃ v0_ : Value, e = .returned v0_ ∧ Kd.R (Kd.int .i64) 3 w' w.heap.size (fun _ => True) v0_ r ∧ Below w.heap.size w w' := by
 unfold impl_valResist.f at h
 obtain ⟨⟨r1, r2⟩, h1, h2⟩ := Option.bind_eq_some_iff.1 h
 obtain rfl := Option.some.inj h2
 refine (impl_guardGame_resist.calls k gb n s m r1 r2 w w ⟨A1, c1, A2, c2, hbx, trivial, hr1, hr2⟩ (Below.refl _ _) h1).mono ?_
 rintro e w' ⟨v, rfl, hR, _, hB, _⟩
 exact ⟨v, rfl, hR, hB⟩

/-! ### impl_valPlace: by hand -/
def impl_valPlace.f (k : Nat) (_n : Int) (s _m : List (List Int)) (l : List Int) : Option Int := (slices_BinarySearchFunc_int_int_int.f k s l).bind fun r => some r.1
theorem impl_valPlace.mono : ∀ a0 a1 a2 a3 k, LeO (impl_valPlace.f k a0 a1 a2 a3) (impl_valPlace.f (k + 1) a0 a1 a2 a3) := by
 intro a0 a1 a2 a3 k
 unfold impl_valPlace.f
 exact LeO.bind (slices_BinarySearchFunc_int_int_int.mono _ _ _) (fun r => LeO.refl _)
theorem impl_valPlace.calls (gb k : Nat) (n : Int) (A1 : Option Addr) (c1 : Nat) (s : List (List Int)) (A2 : Option Addr) (c2 : Nat) (m : List (List Int)) (A : Option Addr) (c : Nat) (l : List Int) (r : Int) (w : World) (hr1 : Kd.C (Kd.slice 3 (Kd.int .i64)) w A1 s.length s) (hc1 : s.length ≤ c1) (_hr2 : Kd.C (Kd.slice 3 (Kd.int .i64)) w A2 m.length m) (_hc2 : m.length ≤ c2) (hr : Kd.C (Kd.int .i64) w A l.length l) (hc : l.length ≤ c) (h : impl_valPlace.f k n s m l = some r) (hbx : w.heap[gb]? = some (.cells #[.int .i64 n, .slice A1 s.length c1, .slice A2 m.length c2] 61 (0, 0))) :
  Calls Tryd.prog 46 #[.pointer (some ⟨gb, 0, none⟩), .slice A l.length c] w fun e w' => e = .returned (.int .i64 r) ∧ Below w.heap.size w w' := by
 have hu := Tryd.underlying61
 unfold impl_valPlace.f at h
 obtain ⟨⟨r1, r2⟩, h1, h2⟩ := Option.bind_eq_some_iff.1 h
 obtain rfl := Option.some.inj h2
 have hcz : w.cell? ⟨gb, 1, none⟩ = some (.slice A1 s.length c1) := (blk_cell hbx 1).trans rfl
 have hfz := blk_frozen hbx 1
 have A5 := Aside0.mk h1
 have HR1 := Aside0.mk hr1
 have HR := Aside0.mk hr
 have HC1 := Aside0.mk hc1
 have HC := Aside0.mk hc
 clear h h1 h2 hbx hr1 hr hc1 hc
 go_enter Tryd.func46, Tryd.ntmps46
 go_wp2_with (first
  | (go_at_call 78;(with_reducible refine (slices_BinarySearchFunc_int_int_int.calls k _ _ s _ _ l r1 r2 _ ?side1 ?side2 ?side3 ?side4 A5.out).mono ?_);(case side1 => exact cP HR1.out);(case side2 => exact HC1.out);(case side3 => exact cP HR.out);(case side4 => exact HC.out);rintro e w' ⟨rfl, ⟨nd, rfl⟩⟩))
 go_ret
 exact ⟨rfl, by repeat (first | exact Below.refl _ _ | apply pw_below_drewN)⟩

/-! ### impl_valBest: by hand -/
def impl_valBest.f (k : Nat) (n : Int) (s m : List (List Int)) (l : List Int) (a b : Int) : Option Int := (impl_guardGame_bestAnswer.f k n s m l a b).bind fun r => some r.1
theorem impl_valBest.mono : ∀ a0 a1 a2 a3 a4 a5 k, LeO (impl_valBest.f k a0 a1 a2 a3 a4 a5) (impl_valBest.f (k + 1) a0 a1 a2 a3 a4 a5) := by
 intro a0 a1 a2 a3 a4 a5 k
 unfold impl_valBest.f
 exact LeO.bind (impl_guardGame_bestAnswer.mono _ _ _ _ _ _ _) (fun r => LeO.refl _)
theorem best_ne {W : World} {base : Nat} {ok : Nat → Prop} {A : Option Addr} {c g : Nat} {l : List Int} {o : Array Value} (h : Kd.R (Kd.int .i64) 3 W base ok (.slice A l.length c) l) (hb : W.heap[g]? = some (.cells o 61 (0, 0))) : ∀ ad, A = some ad → 0 < l.length → ad.block ≠ g := by
 intro ad e hl he
 subst e
 obtain ⟨g', cap, hv, _, _, cells, hc⟩ := Kd.R_form h hl
 injection hv with h1 _ _
 have h2 := Option.some.inj h1
 rw [h2] at he
 simp only at he
 rw [he, hb] at hc
 injection hc with hc
 injection hc with _ h3 _
 exact absurd h3 (by decide)
theorem impl_valBest.calls (gb k : Nat) (n : Int) (A1 : Option Addr) (c1 : Nat) (s : List (List Int)) (A2 : Option Addr) (c2 : Nat) (m : List (List Int)) (A : Option Addr) (c : Nat) (l : List Int) (a b : Int) (r : Int) (w : World) (hr1 : Kd.C (Kd.slice 3 (Kd.int .i64)) w A1 s.length s) (_hc1 : s.length ≤ c1) (hr2 : Kd.C (Kd.slice 3 (Kd.int .i64)) w A2 m.length m) (_hc2 : m.length ≤ c2) (hr : Kd.C (Kd.int .i64) w A l.length l) (hc : l.length ≤ c) (hf : ∀ ad, A = some ad → 0 < l.length → ad.block ≠ gb) (h : impl_valBest.f k n s m l a b = some r) (hbx : w.heap[gb]? = some (.cells #[.int .i64 n, .slice A1 s.length c1, .slice A2 m.length c2] 61 (0, 0))) :
  Calls Tryd.prog 54 #[.pointer (some ⟨gb, 0, none⟩), .slice A l.length c, .int .i64 a, .int .i64 b] w fun e w' => e = .returned (.int .i64 r) ∧ Below w.heap.size w w' := by
 unfold impl_valBest.f at h
 obtain ⟨⟨r1, r2⟩, h1, h2⟩ := Option.bind_eq_some_iff.1 h
 obtain rfl := Option.some.inj h2
 refine (impl_guardGame_bestAnswer.calls k gb n s m A c l a b r1 r2 w w ⟨A1, c1, A2, c2, hbx, trivial, hr1, hr2⟩ (Below.refl _ _) hr hc hf h1).mono ?_
 rintro e w' ⟨rfl, _, hB, _⟩
 exact ⟨rfl, hB⟩

end Go.Proofs.YtgahlimikndecaaDoor.QPlayAttacks
