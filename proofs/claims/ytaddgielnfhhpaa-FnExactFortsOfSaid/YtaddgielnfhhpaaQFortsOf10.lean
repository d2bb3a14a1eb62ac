import Derived.Test.YtaddgielnfhhpaaQFortsOf0
namespace Go.Proofs.Ytaddgielnfhhpaa.QFortsOf
open Go.RowKit Go.Proofs.YtaddgielnfhhpaaW.PrintWords Go.Proofs.YtaddgielnfhhpaaW.PrintLast Go.Proofs.YtaddgielnfhhpaaW.PrintMore
attribute [local go_sem] max2_int min2_int max_two min_two max_three min_three max_four min_four   -- for this text's walks alone
set_option linter.unusedVariables false
set_option linter.unusedSimpArgs false
/-! ### impl_within: function 65 -/
def impl_within.f (a0 : Int) (a1 : Int) (a2 : Int) : Option (Bool) := if a0 ≥ a1 then (some (decide (a0 ≤ a2))) else (some false)
set_option maxHeartbeats 8000000 in
set_option maxRecDepth 100000 in
theorem impl_within.calls (a0 : Int) (a1 : Int) (a2 : Int) (r : Bool) (w : World) (h : impl_within.f a0 a1 a2 = some r) :
  Calls Try.prog 65 #[.int .i64 a0, .int .i64 a1, .int .i64 a2] w fun e w' => e = .returned (.bool r) ∧ Drawn0 w w' := by
 have H : (if a0 ≥ a1 then (some (decide (a0 ≤ a2))) else (some false)) = some r := h
 clear h
 by_cases c4 : a0 ≥ a1
 ·rw [if_pos c4] at H
  have c4b0 : decide (a1 ≤ a0) = true := decide_eq_true c4
  clear c4
  obtain rfl := Option.some.inj H
  go_enter Try.func65, Try.ntmps65
  go_wp2
  go_ret
  exact ⟨by first | rfl | (simp;done) | (simp [*];done), by repeat (first | exact Drawn0.refl _ | apply Drawn0.step)⟩
 ·rw [if_neg c4] at H
  have c4b0 : decide (a1 ≤ a0) = false := decide_eq_false c4
  clear c4
  obtain rfl := Option.some.inj H
  go_enter Try.func65, Try.ntmps65
  go_wp2
  go_ret
  exact ⟨by first | rfl | (simp;done) | (simp [*];done), by repeat (first | exact Drawn0.refl _ | apply Drawn0.step)⟩


/-! ### cmp_isNaN_int: function 115 -/
def cmp_isNaN_int.f (a0 : Int) : Option (Bool) := some (a0 != a0)
set_option maxHeartbeats 8000000 in
set_option maxRecDepth 100000 in
theorem cmp_isNaN_int.calls (a0 : Int) (r : Bool) (w : World) (h : cmp_isNaN_int.f a0 = some r) :
  Calls Try.prog 115 #[.int .i64 a0] w fun e w' => e = .returned (.bool r) ∧ Drawn0 w w' := by
 have H : (some (a0 != a0)) = some r := h
 clear h
 obtain rfl := Option.some.inj H
 go_enter Try.func115, Try.ntmps115
 go_wp2
 go_ret
 exact ⟨by first | rfl | (simp;done) | (simp [*];done), by repeat (first | exact Drawn0.refl _ | apply Drawn0.step)⟩


/-! ### cmp_Compare_int: function 99 -/
def cmp_Compare_int.f (a0 : Int) (a1 : Int) : Option (Int) := (cmp_isNaN_int.f a0).bind fun t294 => ((cmp_isNaN_int.f a1).bind fun t295 => (if t294 = true then (if t295 = true then (some 0) else (some (-1))) else (if t295 = true then (some 1) else (if a0 < a1 then (some (-1)) else (if a0 > a1 then (some 1) else (some 0))))))
set_option maxHeartbeats 8000000 in
set_option maxRecDepth 100000 in
theorem cmp_Compare_int.calls (a0 : Int) (a1 : Int) (r : Int) (w : World) (h : cmp_Compare_int.f a0 a1 = some r) :
  Calls Try.prog 99 #[.int .i64 a0, .int .i64 a1] w fun e w' => e = .returned (.int .i64 r) ∧ Drawn0 w w' := by
 have H : ((cmp_isNaN_int.f a0).bind fun t294 => ((cmp_isNaN_int.f a1).bind fun t295 => (if t294 = true then (if t295 = true then (some 0) else (some (-1))) else (if t295 = true then (some 1) else (if a0 < a1 then (some (-1)) else (if a0 > a1 then (some 1) else (some 0))))))) = some r := h
 clear h
 replace H := Option.bind_eq_some_iff.mp H
 obtain ⟨t294, A30, H⟩ := H
 replace H : ((cmp_isNaN_int.f a1).bind fun t295 => (if t294 = true then (if t295 = true then (some 0) else (some (-1))) else (if t295 = true then (some 1) else (if a0 < a1 then (some (-1)) else (if a0 > a1 then (some 1) else (some 0)))))) = some r := H
 have A3 := Aside0.mk A30
 clear A30
 replace H := Option.bind_eq_some_iff.mp H
 obtain ⟨t295, A40, H⟩ := H
 replace H : (if t294 = true then (if t295 = true then (some 0) else (some (-1))) else (if t295 = true then (some 1) else (if a0 < a1 then (some (-1)) else (if a0 > a1 then (some 1) else (some 0))))) = some r := H
 have A4 := Aside0.mk A40
 clear A40
 by_cases c5 : t294 = true
 ·subst c5
  have H1 : (if t295 = true then (some 0) else (some (-1))) = some r := by rw [if_pos rfl] at H;exact H
  clear H
  have H := H1
  clear H1
  by_cases c6 : t295 = true
  ·subst c6
   have H1 : (some 0) = some r := by rw [if_pos rfl] at H;exact H
   clear H
   have H := H1
   clear H1
   obtain rfl := Option.some.inj H
   go_enter Try.func99, Try.ntmps99
   go_wp2_with (first | ((with_reducible refine gate_callee (f := 115) rfl ?_);refine goesL_ (some 8) rfl rfl Try.func115 (by kernel_rfl) rfl #[.int .i64 a0] rfl mM ?_;(with_reducible refine (cmp_isNaN_int.calls a0 true _ A3.out).mono ?_);rintro e w' ⟨rfl, ⟨nd, rfl⟩⟩;refine ⟨_, rfl, ?_⟩) | ((with_reducible refine gate_callee (f := 115) rfl ?_);refine goesL_ (some 10) rfl rfl Try.func115 (by kernel_rfl) rfl #[.int .i64 a1] rfl mM ?_;(with_reducible refine (cmp_isNaN_int.calls a1 true _ A4.out).mono ?_);rintro e w' ⟨rfl, ⟨nd, rfl⟩⟩;refine ⟨_, rfl, ?_⟩))
   go_ret
   exact ⟨by first | rfl | (simp;done) | (simp [*];done), by repeat (first | exact Drawn0.refl _ | apply Drawn0.step)⟩
  ·replace c6 := Bool.eq_false_iff.mpr c6
   subst c6
   have H1 : (some (-1)) = some r := by rw [if_neg (show ¬ (false = true) by decide)] at H;exact H
   clear H
   have H := H1
   clear H1
   obtain rfl := Option.some.inj H
   go_enter Try.func99, Try.ntmps99
   go_wp2_with (first | ((with_reducible refine gate_callee (f := 115) rfl ?_);refine goesL_ (some 8) rfl rfl Try.func115 (by kernel_rfl) rfl #[.int .i64 a0] rfl mM ?_;(with_reducible refine (cmp_isNaN_int.calls a0 true _ A3.out).mono ?_);rintro e w' ⟨rfl, ⟨nd, rfl⟩⟩;refine ⟨_, rfl, ?_⟩) | ((with_reducible refine gate_callee (f := 115) rfl ?_);refine goesL_ (some 10) rfl rfl Try.func115 (by kernel_rfl) rfl #[.int .i64 a1] rfl mM ?_;(with_reducible refine (cmp_isNaN_int.calls a1 false _ A4.out).mono ?_);rintro e w' ⟨rfl, ⟨nd, rfl⟩⟩;refine ⟨_, rfl, ?_⟩))
   go_ret
   exact ⟨by first | rfl | (simp;done) | (simp [*];done), by repeat (first | exact Drawn0.refl _ | apply Drawn0.step)⟩
 ·replace c5 := Bool.eq_false_iff.mpr c5
  subst c5
  have H1 : (if t295 = true then (some 1) else (if a0 < a1 then (some (-1)) else (if a0 > a1 then (some 1) else (some 0)))) = some r := by rw [if_neg (show ¬ (false = true) by decide)] at H;exact H
  clear H
  have H := H1
  clear H1
  by_cases c7 : t295 = true
  ·subst c7
   have H1 : (some 1) = some r := by rw [if_pos rfl] at H;exact H
   clear H
   have H := H1
   clear H1
   obtain rfl := Option.some.inj H
   go_enter Try.func99, Try.ntmps99
   go_wp2_with (first | ((with_reducible refine gate_callee (f := 115) rfl ?_);refine goesL_ (some 8) rfl rfl Try.func115 (by kernel_rfl) rfl #[.int .i64 a0] rfl mM ?_;(with_reducible refine (cmp_isNaN_int.calls a0 false _ A3.out).mono ?_);rintro e w' ⟨rfl, ⟨nd, rfl⟩⟩;refine ⟨_, rfl, ?_⟩) | ((with_reducible refine gate_callee (f := 115) rfl ?_);refine goesL_ (some 10) rfl rfl Try.func115 (by kernel_rfl) rfl #[.int .i64 a1] rfl mM ?_;(with_reducible refine (cmp_isNaN_int.calls a1 true _ A4.out).mono ?_);rintro e w' ⟨rfl, ⟨nd, rfl⟩⟩;refine ⟨_, rfl, ?_⟩))
   go_ret
   exact ⟨by first | rfl | (simp;done) | (simp [*];done), by repeat (first | exact Drawn0.refl _ | apply Drawn0.step)⟩
  ·replace c7 := Bool.eq_false_iff.mpr c7
   subst c7
   have H1 : (if a0 < a1 then (some (-1)) else (if a0 > a1 then (some 1) else (some 0))) = some r := by rw [if_neg (show ¬ (false = true) by decide)] at H;exact H
   clear H
   have H := H1
   clear H1
   by_cases c8 : a0 < a1
   ·rw [if_pos c8] at H
    have c8b0 : decide (a0 < a1) = true := decide_eq_true c8
    clear c8
    obtain rfl := Option.some.inj H
    go_enter Try.func99, Try.ntmps99
    go_wp2_with (first | ((with_reducible refine gate_callee (f := 115) rfl ?_);refine goesL_ (some 8) rfl rfl Try.func115 (by kernel_rfl) rfl #[.int .i64 a0] rfl mM ?_;(with_reducible refine (cmp_isNaN_int.calls a0 false _ A3.out).mono ?_);rintro e w' ⟨rfl, ⟨nd, rfl⟩⟩;refine ⟨_, rfl, ?_⟩) | ((with_reducible refine gate_callee (f := 115) rfl ?_);refine goesL_ (some 10) rfl rfl Try.func115 (by kernel_rfl) rfl #[.int .i64 a1] rfl mM ?_;(with_reducible refine (cmp_isNaN_int.calls a1 false _ A4.out).mono ?_);rintro e w' ⟨rfl, ⟨nd, rfl⟩⟩;refine ⟨_, rfl, ?_⟩))
    go_ret
    exact ⟨by first | rfl | (simp;done) | (simp [*];done), by repeat (first | exact Drawn0.refl _ | apply Drawn0.step)⟩
   ·rw [if_neg c8] at H
    have c8b0 : decide (a0 < a1) = false := decide_eq_false c8
    clear c8
    by_cases c9 : a0 > a1
    ·rw [if_pos c9] at H
     have c9b0 : decide (a1 < a0) = true := decide_eq_true c9
     clear c9
     obtain rfl := Option.some.inj H
     go_enter Try.func99, Try.ntmps99
     go_wp2_with (first | ((with_reducible refine gate_callee (f := 115) rfl ?_);refine goesL_ (some 8) rfl rfl Try.func115 (by kernel_rfl) rfl #[.int .i64 a0] rfl mM ?_;(with_reducible refine (cmp_isNaN_int.calls a0 false _ A3.out).mono ?_);rintro e w' ⟨rfl, ⟨nd, rfl⟩⟩;refine ⟨_, rfl, ?_⟩) | ((with_reducible refine gate_callee (f := 115) rfl ?_);refine goesL_ (some 10) rfl rfl Try.func115 (by kernel_rfl) rfl #[.int .i64 a1] rfl mM ?_;(with_reducible refine (cmp_isNaN_int.calls a1 false _ A4.out).mono ?_);rintro e w' ⟨rfl, ⟨nd, rfl⟩⟩;refine ⟨_, rfl, ?_⟩))
     go_ret
     exact ⟨by first | rfl | (simp;done) | (simp [*];done), by repeat (first | exact Drawn0.refl _ | apply Drawn0.step)⟩
    ·rw [if_neg c9] at H
     have c9b0 : decide (a1 < a0) = false := decide_eq_false c9
     clear c9
     obtain rfl := Option.some.inj H
     go_enter Try.func99, Try.ntmps99
     go_wp2_with (first | ((with_reducible refine gate_callee (f := 115) rfl ?_);refine goesL_ (some 8) rfl rfl Try.func115 (by kernel_rfl) rfl #[.int .i64 a0] rfl mM ?_;(with_reducible refine (cmp_isNaN_int.calls a0 false _ A3.out).mono ?_);rintro e w' ⟨rfl, ⟨nd, rfl⟩⟩;refine ⟨_, rfl, ?_⟩) | ((with_reducible refine gate_callee (f := 115) rfl ?_);refine goesL_ (some 10) rfl rfl Try.func115 (by kernel_rfl) rfl #[.int .i64 a1] rfl mM ?_;(with_reducible refine (cmp_isNaN_int.calls a1 false _ A4.out).mono ?_);rintro e w' ⟨rfl, ⟨nd, rfl⟩⟩;refine ⟨_, rfl, ?_⟩))
     go_ret
     exact ⟨by first | rfl | (simp;done) | (simp [*];done), by repeat (first | exact Drawn0.refl _ | apply Drawn0.step)⟩




/-! ### slices_Compare_int_int: function 66 -/
def slices_Compare_int_int.l0 : Nat → List Int → List Int → List Int → Int → Int → Option (Int)
 | 0, _, _, _, _, _ => none
 | k + 1, x0, x1, x9, x10, x11 => if x11 < x10 then (if 0 ≤ x11 then (if x11 < (x9.length : Int) then (if x11 ≥ (x1.length : Int) then (some 1) else (if x11 < (x1.length : Int) then ((cmp_Compare_int.f (rd x9 x11) (rd x1 x11)).bind fun t298 => (if t298 = 0 then (slices_Compare_int_int.l0 k x0 x1 x9 x10 (wrap64 (x11 + 1))) else (some t298))) else (none))) else (none)) else (none)) else (if (x0.length : Int) < (x1.length : Int) then (some (-1)) else (some 0))
def slices_Compare_int_int.f (k : Nat) (l0 : List Int) (l1 : List Int) : Option (Int) := slices_Compare_int_int.l0 k l0 l1 l0 (l0.length : Int) 0
theorem slices_Compare_int_int.mono_l : ∀ k, (∀ y0 y1 y2 y3 y4, LeO (slices_Compare_int_int.l0 k y0 y1 y2 y3 y4) (slices_Compare_int_int.l0 (k + 1) y0 y1 y2 y3 y4))
 | 0 => fun _ _ _ _ _ r h => by simp [slices_Compare_int_int.l0] at h
 | k + 1 => by
  have ih0 := slices_Compare_int_int.mono_l k
  ·intro y0 y1 y2 y3 y4
   unfold slices_Compare_int_int.l0
   repeat' first
   | (with_reducible exact ih0 _ _ _ _ _)
   | (with_reducible exact LeO.refl _)
   | (with_reducible exact LeO.none _)
   | (with_reducible refine LeO.ite ?_ ?_)
   | (with_reducible refine LeO.bind ?_ (fun _ => ?_))
   | exact ih0 _ _ _ _ _
   | exact LeO.none _
   | refine LeO.ite ?_ ?_
   | refine LeO.bind ?_ (fun _ => ?_)
theorem slices_Compare_int_int.mono : ∀ a0 a1 k, LeO (slices_Compare_int_int.f k a0 a1) (slices_Compare_int_int.f (k + 1) a0 a1) := by
 intro a0 a1 k
 have ih0 := slices_Compare_int_int.mono_l k
 unfold slices_Compare_int_int.f
 repeat' first
   | (with_reducible exact ih0 _ _ _ _ _)
   | (with_reducible exact LeO.refl _)
   | (with_reducible exact LeO.none _)
   | (with_reducible refine LeO.ite ?_ ?_)
   | (with_reducible refine LeO.bind ?_ (fun _ => ?_))
   | exact ih0 _ _ _ _ _
   | exact LeO.none _
   | refine LeO.ite ?_ ?_
   | refine LeO.bind ?_ (fun _ => ?_)
set_option maxHeartbeats 8000000 in
set_option maxRecDepth 100000 in
theorem slices_Compare_int_int.calls (k : Nat) (A0 : Option Addr) (c0 : Nat) (l0 : List Int) (A1 : Option Addr) (c1 : Nat) (l1 : List Int) (r : Int) (w : World) (hr0 : Kd.C (Kd.int .i64) w A0 l0.length l0) (hc0 : l0.length ≤ c0) (hr1 : Kd.C (Kd.int .i64) w A1 l1.length l1) (hc1 : l1.length ≤ c1) (h : slices_Compare_int_int.f k l0 l1 = some r) :
  Calls Try.prog 66 #[.slice A0 l0.length c0, .slice A1 l1.length c1] w fun e w' => e = .returned (.int .i64 r) ∧ Drawn0 w w' := by
 have HR0 := Aside0.mk hr0
 have HC0 := Aside0.mk hc0
 clear hr0 hc0
 have HR1 := Aside0.mk hr1
 have HC1 := Aside0.mk hc1
 clear hr1 hc1
 have H : (slices_Compare_int_int.l0 k l0 l1 l0 (l0.length : Int) 0) = some r := h
 clear h
 have H' := Aside0.mk H
 clear H
 go_enter Try.func66, Try.ntmps66
 go_wp2
 go_loopg [11] k (fun kq v11 w' => ∃ (x11_1 : Int), v11 = .int .i64 x11_1 ∧ Aside0 (slices_Compare_int_int.l0 kq l0 l1 l0 (l0.length : Int) x11_1 = some r) ∧ Aside0 (kq ≤ k) ∧ Drawn0 w w')
 case atStart => exact ⟨(0), (by first | rfl | (simp;done) | (simp [*];done)), H', ⟨Nat.le_refl _⟩, by repeat (first | exact Drawn0.refl _ | apply Drawn0.step)⟩
 case round =>
  clear H'
  try clear c1
  try clear p2
  obtain ⟨x11_1, rfl, HA, HK1, ⟨m1, rfl⟩⟩ := hrel
  cases gk with
  | zero => exact absurd HA.out (by simp [slices_Compare_int_int.l0])
  | succ k1 =>
   have H := HA.out
   clear HA
   simp only [slices_Compare_int_int.l0] at H
   by_cases c3 : x11_1 < (l0.length : Int)
   ·rw [if_pos c3] at H
    have c3b0 : decide (x11_1 < (l0.length : Int)) = true := decide_eq_true c3
    clear c3
    by_cases c4 : 0 ≤ x11_1
    ·rw [if_pos c4] at H
     have c4b0 : decide (0 ≤ x11_1) = true := decide_eq_true c4
     clear c4
     by_cases c5 : x11_1 < (l0.length : Int)
     ·rw [if_pos c5] at H
      have c5b0 : decide (x11_1 < (l0.length : Int)) = true := decide_eq_true c5
      clear c5
      by_cases c6 : x11_1 ≥ (l1.length : Int)
      ·rw [if_pos c6] at H
       have c6b0 : decide ((l1.length : Int) ≤ x11_1) = true := decide_eq_true c6
       clear c6
       obtain rfl := Option.some.inj H
       have p296 : 0 ≤ (x11_1 : Int) := oA
       have q296 : x11_1 < (l0.length : Int) := oA
       obtain ⟨ad296, e296, hx296_0⟩ := Kd.at_int HR0.out x11_1 p296 q296
       cases e296
       replace p296 := eq_true p296
       replace q296 := eq_true q296
       go_wp2
       go_ret
       exact ⟨by first | rfl | (simp;done) | (simp [*];done), by repeat (first | exact Drawn0.refl _ | apply Drawn0.step)⟩
      ·rw [if_neg c6] at H
       have c6b0 : decide ((l1.length : Int) ≤ x11_1) = false := decide_eq_false c6
       clear c6
       by_cases c7 : x11_1 < (l1.length : Int)
       ·rw [if_pos c7] at H
        have c7b0 : decide (x11_1 < (l1.length : Int)) = true := decide_eq_true c7
        clear c7
        replace H := Option.bind_eq_some_iff.mp H
        obtain ⟨t298, A80, H⟩ := H
        replace H : (if t298 = 0 then (slices_Compare_int_int.l0 k1 l0 l1 l0 (l0.length : Int) (wrap64 (x11_1 + 1))) else (some t298)) = some r := H
        have A8 := Aside0.mk A80
        clear A80
        by_cases c9 : t298 = 0
        ·rw [if_pos c9] at H
         have c9b0 : (t298 == 0) = true := beq_iff_eq.mpr c9
         have c9b1 : (t298 != 0) = false := bne_eq_false_iff_eq.mpr c9
         clear c9
         have H' := Aside0.mk H
         clear H
         have p296 : 0 ≤ (x11_1 : Int) := oA
         have q296 : x11_1 < (l0.length : Int) := oA
         obtain ⟨ad296, e296, hx296_0⟩ := Kd.at_int HR0.out x11_1 p296 q296
         cases e296
         replace p296 := eq_true p296
         replace q296 := eq_true q296
         have p297 : 0 ≤ (x11_1 : Int) := oA
         have q297 : x11_1 < (l1.length : Int) := oA
         obtain ⟨ad297, e297, hx297_0⟩ := Kd.at_int HR1.out x11_1 p297 q297
         cases e297
         replace p297 := eq_true p297
         replace q297 := eq_true q297
         go_wp2_with (first | ((with_reducible refine gate_callee (f := 99) rfl ?_);refine goesL_ (some 26) rfl rfl Try.func99 (by kernel_rfl) rfl #[.int .i64 (rd l0 x11_1), .int .i64 (rd l1 x11_1)] rfl mM ?_;(with_reducible refine (cmp_Compare_int.calls (rd l0 x11_1) (rd l1 x11_1) t298 _ A8.out).mono ?_);rintro e w' ⟨rfl, ⟨nd, rfl⟩⟩;refine ⟨_, rfl, ?_⟩))
         go_roundg k1
         case measure => have := HK1.out;omega
         case rel => exact ⟨(wrap64 (x11_1 + 1)), (by first | rfl | (simp;done) | (simp [*];done)), H', ⟨by have := HK1.out;omega⟩, by repeat (first | exact Drawn0.refl _ | apply Drawn0.step)⟩
        ·rw [if_neg c9] at H
         have c9b0 : (t298 == 0) = false := beq_eq_false_iff_ne.mpr c9
         have c9b1 : (t298 != 0) = true := bne_iff_ne.mpr c9
         obtain rfl := Option.some.inj H
         have p296 : 0 ≤ (x11_1 : Int) := oA
         have q296 : x11_1 < (l0.length : Int) := oA
         obtain ⟨ad296, e296, hx296_0⟩ := Kd.at_int HR0.out x11_1 p296 q296
         cases e296
         replace p296 := eq_true p296
         replace q296 := eq_true q296
         have p297 : 0 ≤ (x11_1 : Int) := oA
         have q297 : x11_1 < (l1.length : Int) := oA
         obtain ⟨ad297, e297, hx297_0⟩ := Kd.at_int HR1.out x11_1 p297 q297
         cases e297
         replace p297 := eq_true p297
         replace q297 := eq_true q297
         go_wp2_with (first | ((with_reducible refine gate_callee (f := 99) rfl ?_);refine goesL_ (some 26) rfl rfl Try.func99 (by kernel_rfl) rfl #[.int .i64 (rd l0 x11_1), .int .i64 (rd l1 x11_1)] rfl mM ?_;(with_reducible refine (cmp_Compare_int.calls (rd l0 x11_1) (rd l1 x11_1) t298 _ A8.out).mono ?_);rintro e w' ⟨rfl, ⟨nd, rfl⟩⟩;refine ⟨_, rfl, ?_⟩))
         go_ret
         exact ⟨by first | rfl | (simp;done) | (simp [*];done), by repeat (first | exact Drawn0.refl _ | apply Drawn0.step)⟩
       ·rw [if_neg c7] at H
        exact absurd H (by simp)
     ·rw [if_neg c5] at H
      exact absurd H (by simp)
    ·rw [if_neg c4] at H
     exact absurd H (by simp)
   ·rw [if_neg c3] at H
    have c3b0 : decide (x11_1 < (l0.length : Int)) = false := decide_eq_false c3
    clear c3
    by_cases c10 : (l0.length : Int) < (l1.length : Int)
    ·rw [if_pos c10] at H
     have c10b0 : decide ((l0.length : Int) < (l1.length : Int)) = true := decide_eq_true c10
     have c10b1 : decide (l0.length < l1.length) = true := decide_eq_true (Int.ofNat_lt.mp c10)
     clear c10
     obtain rfl := Option.some.inj H
     go_wp2
     go_ret
     exact ⟨by first | rfl | (simp;done) | (simp [*];done), by repeat (first | exact Drawn0.refl _ | apply Drawn0.step)⟩
    ·rw [if_neg c10] at H
     have c10b0 : decide ((l0.length : Int) < (l1.length : Int)) = false := decide_eq_false c10
     have c10b1 : decide (l0.length < l1.length) = false := decide_eq_false (fun h => c10 (Int.ofNat_lt.mpr h))
     clear c10
     obtain rfl := Option.some.inj H
     go_wp2
     go_ret
     exact ⟨by first | rfl | (simp;done) | (simp [*];done), by repeat (first | exact Drawn0.refl _ | apply Drawn0.step)⟩


/-! ### impl_IsGraph: by hand -/
theorem C_two {w : World} {a : Addr} {x y : Int} (h0 : w.cell? a = some (.int .i64 x)) (h1 : w.cell? (a.add 1) = some (.int .i64 y)) : Kd.C (Kd.int .i64) w (some a) ([x, y] : List Int).length [x, y] := by
 refine ⟨rfl, ?_, fun _ => ⟨a, rfl, ?_⟩⟩
 ·simp
 ·intro j p hj
  match j, hj with
  | 0, hj => 
   simp at hj;subst hj
   exact ⟨[.int .i64 x], rfl, rfl, fun i u hu => by
    match i, hu with
    | 0, hu => simp at hu;subst hu;simpa [Addr.add] using h0⟩
  | 1, hj =>
   simp at hj;subst hj
   exact ⟨[.int .i64 y], rfl, rfl, fun i u hu => by
    match i, hu with
    | 0, hu => simp at hu;subst hu;simpa [Addr.add, Kd.int, Kd.scalar] using h1⟩
theorem cmp2 (a b c d : Int) : ∃ k r, slices_Compare_int_int.f k [a, b] [c, d] = some r ∧ (r < 0 ↔ (a < c ∨ a = c ∧ b < d)) := by
 have hc : ∀ x y, cmp_Compare_int.f x y = some (if x < y then -1 else if x > y then 1 else 0) := by
  intro x y;simp [cmp_Compare_int.f, cmp_isNaN_int.f];split <;> (try split) <;> rfl
 have w1 : wrap64 (0 + 1) = 1 := by unfold wrap64;omega
 have w2 : wrap64 (1 + 1) = 2 := by unfold wrap64;omega
 refine ⟨3, if a < c then -1 else if a > c then 1 else if b < d then -1 else if b > d then 1 else 0, ?_, ?_⟩
 ·simp only [slices_Compare_int_int.f, slices_Compare_int_int.l0, hc]
  simp only [rd, w1, w2, Option.bind_some, List.length_cons, List.length_nil]
  by_cases h1 : a < c
  ·simp [h1]
  ·by_cases h2 : c < a
   ·simp [h1, h2]
   ·by_cases h3 : b < d
    ·simp [h1, h2, h3]
    ·by_cases h4 : d < b
     ·simp [h1, h2, h3, h4]
     ·simp [h1, h2, h3, h4]
 ·split
  ·simp;omega
  ·split
   ·simp;omega
   ·split
    ·simp;omega
    ·split <;> simp <;> omega
def impl_IsGraph.f (a0_0 : Int) (l0_1 : List S80) : Option Bool := some (decide (0 ≤ a0_0 ∧ a0_0 ≤ 8) && goodL a0_0 none l0_1)
set_option maxHeartbeats 8000000 in
set_option maxRecDepth 100000 in
theorem impl_IsGraph.calls (a0_0 : Int) (A0_1 : Option Addr) (c0_1 : Nat) (l0_1 : List (S80)) (r : Bool) (w : World) (hr0_1 : Kd.C k80 w A0_1 l0_1.length l0_1) (hc0_1 : l0_1.length ≤ c0_1) (h : impl_IsGraph.f a0_0 l0_1 = some r) :
  Calls Try.prog 38 #[.agg #[.int .i64 a0_0, .slice A0_1 l0_1.length c0_1]] w fun e w' => e = .returned (.bool r) ∧ Below w.heap.size w w' := by
 have HR := Aside0.mk hr0_1
 have HC := Aside0.mk hc0_1
 have H := Aside0.mk (Option.some.inj h)
 clear hr0_1 hc0_1 h
 by_cases hn : 0 ≤ a0_0 ∧ a0_0 ≤ 8
 ·have hw : impl_within.f a0_0 0 8 = some true := by simp [impl_within.f, hn]
  have H1 : Aside0 (goodL a0_0 none l0_1 = r) := ⟨by have := H.out;simpa [hn] using this⟩
  have HW := Aside0.mk hw
  clear hw H
  go_enter Try.func38, Try.ntmps38
  go_wp2_with (go_at_call 65;refine (impl_within.calls _ _ _ _ _ HW.out).mono ?_;rintro e w' ⟨rfl, ⟨nd, rfl⟩⟩)
  have HB : Aside0 (Below w.heap.size w ((w.alloc (Obj.cells #[Value.int IntKind.i64 a0_0, Value.slice A0_1 l0_1.length c0_1] 29)).drewN nd)) := ⟨pw_below_drewN (below_alloc (Below.refl _ _) _) _⟩
  go_loopw [12] (fun v wr => ∃ x : Int, v = .int .i64 x ∧ Aside0 (0 ≤ x ∧ x ≤ l0_1.length) ∧ Aside0 (goodL a0_0 (prevAt l0_1 x.toNat) (l0_1.drop x.toNat) = r) ∧ Aside0 (wr.heap[w.heap.size]? = some (.cells #[.int .i64 a0_0, .slice A0_1 l0_1.length c0_1] 29 (0, 0))) ∧ Aside0 (Below w.heap.size w wr)) (fun v _ => l0_1.length - (intOf v).toNat)
  case atStart => exact ⟨0, rfl, ⟨by omega, by omega⟩, ⟨by simpa [prevAt] using H1.out⟩, ⟨blk_drewN (blk_new w _) _⟩, HB⟩
  case round =>
   clear HB H1
   obtain ⟨x, rfl, HX, HG, BK, HB⟩ := hrel
   have hcz0 : wr.cell? ⟨w.heap.size, 0, none⟩ = some (.int .i64 a0_0) := (blk_cell BK.out 0).trans rfl
   have hcz1 : wr.cell? ⟨w.heap.size, 1, none⟩ = some (.slice A0_1 l0_1.length c0_1) := (blk_cell BK.out 1).trans rfl
   by_cases hlt : x < (l0_1.length : Int)
   ·have hlt' : decide (x < (l0_1.length : Int)) = true := decide_eq_true hlt
    have p0 : 0 ≤ x := HX.out.1
    obtain ⟨ad, e, hx0, hx1⟩ := at_T80 HR.out x p0 hlt
    cases e
    replace hx0 := (HB.out.cell (World.block_lt_of_cell? w _ hx0)).trans hx0
    replace hx1 := (HB.out.cell (World.block_lt_of_cell? w _ hx1)).trans hx1
    replace p0 := eq_true p0
    have hlt'' := eq_true hlt
    have HL := Aside0.mk hlt
    have hsz : w.heap.size < wr.heap.size := blk_lt BK.out
    clear hlt
    go_wp2
    by_cases t0 : (rd_T80 l0_1 x).f0 < 0
    ·have d0 : decide ((rd_T80 l0_1 x).f0 < 0) = true := decide_eq_true t0
     have hr : r = false := by rw [← HG.out, step_lt HX.out.1 HL.out];simp [edgeOk];omega
     subst hr
     clear t0
     go_quiet (fail)
     go_wp2
     go_ret
     exact ⟨rfl, by repeat (first | exact HB.out | apply below_alloc | apply pw_below_drewN | apply below_drew)⟩
    have d0 : decide ((rd_T80 l0_1 x).f0 < 0) = false := decide_eq_false t0
    by_cases t1 : (rd_T80 l0_1 x).f1 ≤ (rd_T80 l0_1 x).f0
    ·have d1 : decide ((rd_T80 l0_1 x).f1 ≤ (rd_T80 l0_1 x).f0) = true := decide_eq_true t1
     have hr : r = false := by rw [← HG.out, step_lt HX.out.1 HL.out];simp [edgeOk];omega
     subst hr
     clear t0 t1
     go_quiet (fail)
     go_wp2
     go_ret
     exact ⟨rfl, by repeat (first | exact HB.out | apply below_alloc | apply pw_below_drewN | apply below_drew)⟩
    have d1 : decide ((rd_T80 l0_1 x).f1 ≤ (rd_T80 l0_1 x).f0) = false := decide_eq_false t1
    by_cases t2 : a0_0 ≤ (rd_T80 l0_1 x).f1
    ·have d2 : decide (a0_0 ≤ (rd_T80 l0_1 x).f1) = true := decide_eq_true t2
     have hr : r = false := by rw [← HG.out, step_lt HX.out.1 HL.out];simp [edgeOk];omega
     subst hr
     clear t0 t1 t2
     go_quiet (fail)
     go_wp2
     go_ret
     exact ⟨rfl, by repeat (first | exact HB.out | apply below_alloc | apply pw_below_drewN | apply below_drew)⟩
    have d2 : decide (a0_0 ≤ (rd_T80 l0_1 x).f1) = false := decide_eq_false t2
    by_cases t3 : 0 < x
    ·have d3 : decide (0 < x) = true := decide_eq_true t3
     have hj : wrap64 (x - 1) = x - 1 := by have h1 := HL.out;have h2 := HX.out;have h3 := HR.out.2.1;unfold wrap64;omega
     obtain ⟨ji, hji⟩ : ∃ j : Int, j = x - 1 := ⟨_, rfl⟩
     have hjw : IntKind.i64.wrap (x - 1) = ji := ((i64_w _).trans hj).trans hji.symm
     have p1 : 0 ≤ ji := by omega
     have q1 : ji < (l0_1.length : Int) := by have := HL.out;omega
     have HJ := Aside0.mk hji
     clear hj hji
     obtain ⟨ad', e', hy0, hy1⟩ := at_T80 HR.out ji p1 q1
     cases e'
     replace hy0 := (HB.out.cell (World.block_lt_of_cell? w _ hy0)).trans hy0
     replace hy1 := (HB.out.cell (World.block_lt_of_cell? w _ hy1)).trans hy1
     replace p1 := eq_true p1
     replace q1 := eq_true q1
     obtain ⟨k, c, hc, hlt⟩ := cmp2 (rd_T80 l0_1 ji).f0 (rd_T80 l0_1 ji).f1 (rd_T80 l0_1 x).f0 (rd_T80 l0_1 x).f1
     have HCMP := Aside0.mk hc
     have HY := Aside0.mk (C_two hy0 hy1)
     clear hc
     by_cases t4 : 0 ≤ c
     ·have d4 : decide (0 ≤ c) = true := decide_eq_true t4
      have hr : r = false := by
       rw [← HG.out, step_lt HX.out.1 HL.out]
       have : edgeLt (rd_T80 l0_1 ji) (rd_T80 l0_1 x) = false := by
        by_cases he : edgeLt (rd_T80 l0_1 ji) (rd_T80 l0_1 x) = true
        ·exfalso;simp [edgeLt] at he;have := hlt.2 he;omega
        ·simpa using he
       have hp : prevAt l0_1 x.toNat = some (rd_T80 l0_1 ji) := by unfold prevAt;rw [if_neg (by omega), HJ.out];congr 2;omega
       rw [hp];simp [this]
      subst hr
      clear t0 t1 t2 t3 t4 hlt
      go_quiet ((first | (go_at_call 66;refine (slices_Compare_int_int.calls k (some _) 2 [_, _] (some _) 2 [_, _] c _ (Kd.C_below HY.out (pw_below_drewN (below_alloc (Below.refl _ _) _) _)) (Nat.le_refl _) (C_two (by simp [go_sem]) (by simp [go_sem, Addr.add])) (Nat.le_refl _) HCMP.out).mono ?_;rintro e w' ⟨rfl, ⟨nd, rfl⟩⟩;exact ⟨rfl, _, World.drewN_drewN _ _ _⟩)))
      go_wp2
      go_ret
      exact ⟨rfl, by repeat (first | exact HB.out | apply below_alloc | apply pw_below_drewN | apply below_drew)⟩
     ·have d4 : decide (0 ≤ c) = false := decide_eq_false t4
      have hr : Aside0 (goodL a0_0 (prevAt l0_1 (x + 1).toNat) (l0_1.drop (x + 1).toNat) = r) := ⟨by
       rw [← HG.out, step_lt HX.out.1 HL.out]
       have he : edgeLt (rd_T80 l0_1 ji) (rd_T80 l0_1 x) = true := by simp only [edgeLt, decide_eq_true_eq];exact hlt.1 (by omega)
       have hp : prevAt l0_1 x.toNat = some (rd_T80 l0_1 ji) := by unfold prevAt;rw [if_neg (by omega), HJ.out];congr 2;omega
       have ho : edgeOk a0_0 (rd_T80 l0_1 x) = true := by simp only [edgeOk, decide_eq_true_eq];omega
       rw [hp, ho];simp [he]⟩
      have HN : Aside0 (x + 1 ≤ l0_1.length ∧ x + 1 ≤ 9223372036854775807) := ⟨by have := HL.out;have := HR.out.2.1;omega⟩
      have hw1 : wrap64 (x + 1) = x + 1 := by have := HN.out;have := HX.out;unfold wrap64;omega
      have HW1 := Aside0.mk hw1
      clear t0 t1 t2 t3 t4 hlt hw1
      go_quiet ((first | (go_at_call 66;refine (slices_Compare_int_int.calls k (some _) 2 [_, _] (some _) 2 [_, _] c _ (Kd.C_below HY.out (pw_below_drewN (below_alloc (Below.refl _ _) _) _)) (Nat.le_refl _) (C_two (by simp [go_sem]) (by simp [go_sem, Addr.add])) (Nat.le_refl _) HCMP.out).mono ?_;rintro e w' ⟨rfl, ⟨nd, rfl⟩⟩;exact ⟨rfl, _, World.drewN_drewN _ _ _⟩)))
      go_wp2
      go_roundw
      case rel => exact ⟨x + 1, by rw [HW1.out], ⟨by have := HX.out;have := HN.out;omega⟩, hr, ⟨by refine kP ?_;exact BK.out⟩, ⟨by repeat (first | exact HB.out | apply below_alloc | apply pw_below_drewN | apply below_drew)⟩⟩
      case measure => have := HL.out;have := HX.out;rw [HW1.out];simp [intOf];omega
    ·have d3 : decide (0 < x) = false := decide_eq_false t3
     obtain rfl : x = 0 := by have := HX.out;omega
     have hr : Aside0 (goodL a0_0 (prevAt l0_1 1) (l0_1.drop 1) = r) := ⟨by rw [← HG.out, step_lt HX.out.1 HL.out];simp [edgeOk, prevAt];omega⟩
     clear t0 t1 t2 t3
     go_quiet (fail)
     go_wp2
     go_roundw
     case rel => exact ⟨1, rfl, ⟨by omega, by have := HL.out;omega⟩, hr, ⟨by refine kP ?_;exact BK.out⟩, ⟨by repeat (first | exact HB.out | apply below_alloc | apply pw_below_drewN | apply below_drew)⟩⟩
     case measure => have := HL.out;simp [intOf];omega
   ·have hlt' : decide (x < (l0_1.length : Int)) = false := decide_eq_false hlt
    obtain rfl : true = r := by have := HG.out;rw [List.drop_eq_nil_of_le (by omega)] at this;simpa [goodL] using this
    clear hlt
    go_wp2
    go_ret
    exact ⟨rfl, HB.out⟩
 ·have hw : impl_within.f a0_0 0 8 = some false := by 
   simp only [impl_within.f]
   split
   ·simp;omega
   ·rfl
  obtain rfl : false = r := by have := H.out;simpa [hn] using this
  have HW := Aside0.mk hw
  clear hw H
  go_enter Try.func38, Try.ntmps38
  go_wp2_with (go_at_call 65;refine (impl_within.calls _ _ _ _ _ HW.out).mono ?_;rintro e w' ⟨rfl, ⟨nd, rfl⟩⟩)
  go_ret
  exact ⟨rfl, by repeat (first | exact Below.refl _ _ | apply below_alloc | apply pw_below_drewN | apply below_drew | refine below_set ?_ (by simp))⟩

/-! ### impl_netOf: by hand -/
def netStep (w : List Int) (e : S80) : List Int :=
 let w1 := w.set e.f0.toNat (Go.bits .or .i64 (rd w e.f0) (shl .i64 1 e.f1))
 w1.set e.f1.toNat (Go.bits .or .i64 (rd w1 e.f1) (shl .i64 1 e.f0))
def impl_netOf.f (a0_0 : Int) (l0_1 : List S80) : Option (List Int) := if decide (0 ≤ a0_0 ∧ a0_0 ≤ 8) && goodL a0_0 none l0_1 then some (l0_1.foldl netStep (List.replicate a0_0.toNat 0)) else none
set_option maxHeartbeats 1600000 in
set_option maxRecDepth 100000 in
theorem impl_netOf.calls (a0_0 : Int) (A0_1 : Option Addr) (c0_1 : Nat) (l0_1 : List (S80)) (r : List Int) (w : World) (hr0_1 : Kd.C k80 w A0_1 l0_1.length l0_1) (hc0_1 : l0_1.length ≤ c0_1) (h : impl_netOf.f a0_0 l0_1 = some r) :
  Calls Try.prog 40 #[.agg #[.int .i64 a0_0, .slice A0_1 l0_1.length c0_1]] w fun e w' => ∃ v0_ : Value, e = .returned (.agg #[v0_]) ∧ Kd.R (Kd.int .i64) 3 w' w.heap.size (fun _ => True) v0_ r ∧ Below w.heap.size w w' := by
 have hu29 := Try.underlying29
 have hu53 := Try.underlying56
 have hu72 := Try.underlying80
 have HR0_1 := Aside0.mk hr0_1
 have HC0_1 := Aside0.mk hc0_1
 clear hr0_1 hc0_1
 have HB := Aside0.mk (Below.refl w.heap.size w)
 unfold impl_netOf.f at h
 by_cases hg : (decide (0 ≤ a0_0 ∧ a0_0 ≤ 8) && goodL a0_0 none l0_1) = true
 case neg => rw [if_neg hg] at h;cases h
 rw [if_pos hg] at h
 simp only [Bool.and_eq_true, decide_eq_true_eq] at hg
 obtain ⟨⟨hn0, hn8⟩, hg2⟩ := hg
 have HE := Aside0.mk (goodL_all hg2)
 have c2b0 := eq_true hn0
 have c2b1 : decide (0 ≤ a0_0) = true := decide_eq_true hn0
 have hn35 : a0_0.toNat ≤ 35184372088832 := by omega
 have c3b0 := eq_true hn35
 have c3b1 : decide ((a0_0 : Int).toNat ≤ 35184372088832) = true := decide_eq_true hn35
 obtain ⟨y238, hy238⟩ : ∃ y_ : List Int, y_ = (List.replicate (a0_0 : Int).toNat 0) := ⟨_, rfl⟩
 rw [← hy238] at h
 have HN := Aside0.mk (And.intro hn0 hn8)
 have HYL : Aside0 (y238.length = a0_0.toNat) := ⟨by rw [hy238];simp⟩
 have H' := Aside0.mk (Option.some.inj h)
 have Ny238 := Aside0.mk hy238
 clear hy238 h hg2 hn0 hn8 hn35
 go_enter Try.func40, Try.ntmps40
 go_wp2_with (first | ((with_reducible refine gate_dst (N := 1) rfl ?_);refine box_event ?hg (N := 1) ?hd (cs := #[.int .i64 a0_0, .slice A0_1 l0_1.length c0_1]) (t := 29) ?hr ?_;(case hd => rfl);(case hg => rfl);(case hr => first | (go_simp;done) | (go_simp;rfl));intro gb236 hg w4 hbox hb;have n0_ := Aside0.mk (below_step (by exact bB) hb);have n1_ := Aside0.mk (hbox);have n2_ := Aside0.mk ((by rw [hg];exact (below_size (by exact bB)) : w.heap.size ≤ gb236));have n3_ := Aside0.mk ((by rw [hg];exact (below_size (by exact bB)) : w.heap.size ≤ gb236));clear HB;have HB := n0_;have BK236 := n1_;have GW236 := n2_;have GE236 := n3_;clear n0_ n1_ n2_ n3_;clear hb hbox hg) | ((with_reducible refine gate_dst (N := 2) rfl ?_);refine box_event ?hg (N := 2) ?hd (cs := #[.slice none 0 0]) (t := 56) ?hr ?_;(case hd => rfl);(case hg => rfl);(case hr => first | (go_simp;done) | (go_simp;rfl));intro gb237 hg w5 hbox hb;have n0_ := Aside0.mk (blk_below (g := gb236) (o := .cells #[.int .i64 a0_0, .slice A0_1 l0_1.length c0_1] 29 (0, 0)) (by exact kP BK236.out) hb);have n1_ := Aside0.mk (below_step (by exact bB) hb);have n2_ := Aside0.mk (hbox);have n3_ := Aside0.mk ((by rw [hg];exact (below_size (by exact bB)) : w.heap.size ≤ gb237));have n4_ := Aside0.mk ((by rw [hg];exact (below_size (by exact bB)) : w.heap.size ≤ gb237));have n5_ := Aside0.mk ((by rw [hg];exact Nat.ne_of_lt (blk_lt (g := gb236) (o := .cells #[.int .i64 a0_0, .slice A0_1 l0_1.length c0_1] 29 (0, 0)) (by exact kP BK236.out)) : gb236 ≠ gb237));have n6_ := Aside0.mk ((by rw [hg];exact Nat.ne_of_gt (blk_lt (g := gb236) (o := .cells #[.int .i64 a0_0, .slice A0_1 l0_1.length c0_1] 29 (0, 0)) (by exact kP BK236.out)) : gb237 ≠ gb236));clear BK236;clear HB;have BK236 := n0_;have HB := n1_;have BK237 := n2_;have GW237 := n3_;have GE237 := n4_;have NB236_237 := n5_;have NB237_236 := n6_;clear n0_ n1_ n2_ n3_ n4_ n5_ n6_;clear hb hbox hg;have hnb6 := NB236_237.out;have hnc6 := NB237_236.out;have hcz7_0 : w5.cell? ⟨gb236, 0, none⟩ = some (.int .i64 a0_0) := (blk_cell BK236.out 0).trans rfl;have hcz7_1 : w5.cell? ⟨gb236, 1, none⟩ = some (.slice A0_1 l0_1.length c0_1) := (blk_cell BK236.out 1).trans rfl;have hfz7_0 := blk_frozen BK236.out 0;have hfz7_1 := blk_frozen BK236.out 1) | ((with_reducible refine gate_dst (N := 8) rfl ?_);refine Kd.R_make (Kd.int .i64) _ 3 rfl (N := 8) rfl 25 _ _ rfl a0_0 rfl rfl Try.underlying25 (.int .i64 0) 8 infoInt rfl (by decide) (by omega) 0 (ok := fun _ => True) (okp := fun _ => True) rfl (fun _ hk => hk) trivial (oA) (Nat.le_trans (Nat.mul_le_mul_right _ (oA : a0_0.toNat ≤ 35184372088832)) (by omega)) (Below.refl _ _) (Nat.le_refl _) ?_;intro v239 w8 ho9 hb hg_ hnew_;clear hg_ hnew_;(first | rw [← Ny238.out] at ho9 | (simp only [Int.reduceToNat] at ho9;rw [← Ny238.out] at ho9));have n0_ := Aside0.mk (Kd.R_lower ho9 (below_size (by exact bB)));have n1_ := Aside0.mk (blk_below (g := gb236) (o := .cells #[.int .i64 a0_0, .slice A0_1 l0_1.length c0_1] 29 (0, 0)) (by exact kP BK236.out) hb);have n2_ := Aside0.mk (blk_below (g := gb237) (o := .cells #[.slice none 0 0] 56 (0, 0)) (by exact kP BK237.out) hb);have n3_ := Aside0.mk (below_step (by exact bB) hb);clear BK236;clear BK237;clear HB;have HO240 := n0_;have BK236 := n1_;have BK237 := n2_;have HB := n3_;clear n0_ n1_ n2_ n3_;clear hb ho9;obtain ⟨Ao10, co10, eo10⟩ := Kd.R_slice HO240.out;subst eo10) | ((with_reducible refine gate_dst (N := 3) rfl ?_);refine box_event ?hg (N := 3) ?hd (cs := #[.slice none 0 0]) (t := 56) ?hr ?_;(case hd => rfl);(case hg => rfl);(case hr => first | (go_simp;done) | (go_simp;rfl));intro gb241 hg w11 hbox hb;have n0_ := Aside0.mk (Kd.R_below (by exact rP HO240.out) hb);have n1_ := Aside0.mk (blk_below (g := gb236) (o := .cells #[.int .i64 a0_0, .slice A0_1 l0_1.length c0_1] 29 (0, 0)) (by exact kP BK236.out) hb);have n2_ := Aside0.mk (blk_below (g := gb237) (o := .cells #[.slice none 0 0] 56 (0, 0)) (by exact kP BK237.out) hb);have n3_ := Aside0.mk (below_step (by exact bB) hb);have n4_ := Aside0.mk (hbox);have n5_ := Aside0.mk ((by rw [hg];exact (below_size (by exact bB)) : w.heap.size ≤ gb241));have n6_ := Aside0.mk ((by rw [hg];exact (below_size (by exact bB)) : w.heap.size ≤ gb241));have n7_ := Aside0.mk ((by rw [hg];exact Nat.ne_of_lt (blk_lt (g := gb236) (o := .cells #[.int .i64 a0_0, .slice A0_1 l0_1.length c0_1] 29 (0, 0)) (by exact kP BK236.out)) : gb236 ≠ gb241));have n8_ := Aside0.mk ((by rw [hg];exact Nat.ne_of_gt (blk_lt (g := gb236) (o := .cells #[.int .i64 a0_0, .slice A0_1 l0_1.length c0_1] 29 (0, 0)) (by exact kP BK236.out)) : gb241 ≠ gb236));have n9_ := Aside0.mk ((by rw [hg];exact Nat.ne_of_lt (blk_lt (g := gb237) (o := .cells #[.slice none 0 0] 56 (0, 0)) (by exact kP BK237.out)) : gb237 ≠ gb241));have n10_ := Aside0.mk ((by rw [hg];exact Nat.ne_of_gt (blk_lt (g := gb237) (o := .cells #[.slice none 0 0] 56 (0, 0)) (by exact kP BK237.out)) : gb241 ≠ gb237));clear HO240;clear BK236;clear BK237;clear HB;have HO240 := n0_;have BK236 := n1_;have BK237 := n2_;have HB := n3_;have BK241 := n4_;have GW241 := n5_;have GE241 := n6_;have NB236_241 := n7_;have NB241_236 := n8_;have NB237_241 := n9_;have NB241_237 := n10_;clear n0_ n1_ n2_ n3_ n4_ n5_ n6_ n7_ n8_ n9_ n10_;clear hb hbox hg;have hnb12 := NB241_236.out;have hnc12 := NB236_241.out;have hnb13 := NB241_237.out;have hnc13 := NB237_241.out;have hcz14_0 : w11.cell? ⟨gb241, 0, none⟩ = some (.slice none 0 0) := (blk_cell BK241.out 0).trans rfl;have hfz14_0 := blk_frozen BK241.out 0;have hcz15_0 : w11.cell? ⟨gb236, 0, none⟩ = some (.int .i64 a0_0) := (blk_cell BK236.out 0).trans rfl;have hcz15_1 : w11.cell? ⟨gb236, 1, none⟩ = some (.slice A0_1 l0_1.length c0_1) := (blk_cell BK236.out 1).trans rfl;have hfz15_0 := blk_frozen BK236.out 0;have hfz15_1 := blk_frozen BK236.out 1))
 go_loopw [13] (fun v13 w' => ∃ (x13_1 : Int) (x242000_1 : List Int) (u242000 : Value), v13 = .int .i64 x13_1 ∧ Aside0 (0 ≤ x13_1 ∧ x13_1 ≤ l0_1.length) ∧ Aside0 ((l0_1.drop x13_1.toNat).foldl netStep x242000_1 = r) ∧ Aside0 (x242000_1.length = a0_0.toNat) ∧ Aside0 (Kd.R (Kd.int .i64) 3 w' w.heap.size (fun _ => True) u242000 x242000_1) ∧ Aside0 (w'.heap[gb236]? = some (.cells #[.int .i64 a0_0, (.slice A0_1 l0_1.length c0_1)] 29 (0, 0))) ∧ Aside0 (w'.heap[gb237]? = some (.cells #[(.slice none 0 0)] 56 (0, 0))) ∧ Aside0 (w'.heap[gb241]? = some (.cells #[u242000] 56 (0, 0))) ∧ Aside0 (Below w.heap.size w w')) (fun v _ => l0_1.length - (intOf v).toNat)
 case atStart => exact ⟨(0), (y238), (.slice Ao10 y238.length co10), rfl, ⟨by omega, by omega⟩, ⟨H'.out⟩, HYL, ⟨by refine rP ?_;exact Kd.R_mono (Kd.R_far (p := ⟨gb241, 0, none⟩) (Kd.R_types HO240.out BK241.out (by decide)) (fun _ hk => hk.2) (.slice Ao10 y238.length co10)) (fun _ hk => trivial)⟩, ⟨by refine kP ?_;refine blk_far ?_ NB236_241.out _;exact kP BK236.out⟩, ⟨by refine kP ?_;refine blk_far ?_ NB237_241.out _;exact kP BK237.out⟩, ⟨by refine kP ?_;refine blk_put (cs := #[.slice none 0 0]) ?_ 0 _ rfl;exact kP BK241.out⟩, ⟨by exact bB⟩⟩
 case round =>
  clear H' HYL Ny238 HO240
  try clear c2
  try clear c2b0
  try clear c2b1
  try clear c3b0
  try clear c3b1
  obtain ⟨x13_1, x242000_1, u242000, rfl, HX, HF, HYL, HO_242000, BK236, BK237, BK241, HB⟩ := hrel
  by_cases hlt : x13_1 < (l0_1.length : Int)
  ·have hlt' : decide (x13_1 < (l0_1.length : Int)) = true := decide_eq_true hlt
   have p0 : 0 ≤ x13_1 := HX.out.1
   obtain ⟨ad, e, hx0, hx1⟩ := at_T80 HR0_1.out x13_1 p0 hlt
   cases e
   replace hx0 := (HB.out.cell (World.block_lt_of_cell? w _ hx0)).trans hx0
   replace hx1 := (HB.out.cell (World.block_lt_of_cell? w _ hx1)).trans hx1
   have HL := Aside0.mk hlt
   have hok := HE.out (rd_T80 l0_1 x13_1) (rd_mem p0 hlt)
   have HF2 : Aside0 ((l0_1.drop (x13_1 + 1).toNat).foldl netStep (netStep x242000_1 (rd_T80 l0_1 x13_1)) = r) := ⟨by rw [← HF.out];exact (foldl_at p0 hlt netStep x242000_1).symm⟩
   have HW1 : Aside0 (wrap64 (x13_1 + 1) = x13_1 + 1) := ⟨by have := HR0_1.out.2.1;unfold wrap64;omega⟩
   obtain ⟨e, he⟩ : ∃ e, e = rd_T80 l0_1 x13_1 := ⟨_, rfl⟩
   rw [← he] at hx0 hx1 hok HF2
   simp only [edgeOk, decide_eq_true_eq] at hok
   have hN := HN.out
   have hYL := HYL.out
   have i0 : 0 ≤ e.f0 := hok.1
   have i1 : e.f0 < (x242000_1.length : Int) := by omega
   have j0 : 0 ≤ e.f1 := by omega
   have j1 : e.f1 < (x242000_1.length : Int) := by omega
   have HOK := Aside0.mk (show 0 ≤ e.f0 ∧ e.f0 < 8 ∧ 0 ≤ e.f1 ∧ e.f1 < 8 by omega)
   obtain ⟨f0, hf0⟩ : ∃ z, z = e.f0 := ⟨_, rfl⟩
   obtain ⟨f1, hf1⟩ : ∃ z, z = e.f1 := ⟨_, rfl⟩
   have HST : Aside0 (netStep x242000_1 e = ((x242000_1.set f0.toNat (Go.bits .or .i64 (rd x242000_1 f0) (shl .i64 1 f1))).set f1.toNat (Go.bits .or .i64 (rd (x242000_1.set f0.toNat (Go.bits .or .i64 (rd x242000_1 f0) (shl .i64 1 f1))) f1) (shl .i64 1 f0)))) := ⟨by rw [hf0, hf1];rfl⟩
   rw [← hf0] at hx0 i0 i1 HOK
   rw [← hf1] at hx1 j0 j1 HOK
   clear he hok hf0 hf1
   obtain ⟨go, co, eo, gb, gl, cl, HG⟩ := Kd.R_form HO_242000.out (by omega)
   cases eo
   have gne : go ≠ gb241 := fun hE => by
    have h1 := HG;rw [hE, BK241.out] at h1;simp at h1
   have gne' : gb241 ≠ go := fun hE => gne hE.symm
   have hcz3 : wr.cell? ⟨gb241, 0, none⟩ = some (.slice (some ⟨go, 0, none⟩) x242000_1.length co) := (blk_cell BK241.out 0).trans rfl
   have hb241 : gb241 < wr.heap.size := blk_lt BK241.out
   have GB := Aside0.mk gb
   have GL := Aside0.mk gl
   clear hN hYL hlt HG gb gl
   replace p0 := eq_true p0
   have hq0 := eq_true HL.out
   go_wp2
   generalize hw1 : (World.alloc wr _) = w1
   have BN : Aside0 (w1.heap[wr.heap.size]? = some (.cells #[.int .i64 f0, .int .i64 f1] 80 (0, 0))) := ⟨by rw [← hw1];exact blk_new wr _⟩
   have HB1 : Aside0 (Below w.heap.size w w1) := ⟨by rw [← hw1];exact below_alloc HB.out _⟩
   have BK1 : Aside0 (w1.heap[gb236]? = some (.cells #[.int .i64 a0_0, (.slice (some ad) l0_1.length c0_1)] 29 (0, 0))) := ⟨by rw [← hw1];exact blk_alloc BK236.out _⟩
   have BK2 : Aside0 (w1.heap[gb237]? = some (.cells #[(.slice none 0 0)] 56 (0, 0))) := ⟨by rw [← hw1];exact blk_alloc BK237.out _⟩
   have BK3 : Aside0 (w1.heap[gb241]? = some (.cells #[.slice (some ⟨go, 0, none⟩) x242000_1.length co] 56 (0, 0))) := ⟨by rw [← hw1];exact blk_alloc BK241.out _⟩
   have HO1 : Aside0 (Kd.R (Kd.int .i64) 3 w1 w.heap.size (fun _ => True) (.slice (some ⟨go, 0, none⟩) x242000_1.length co) x242000_1) := ⟨by rw [← hw1];exact Kd.R_alloc HO_242000.out _⟩
   have hbn : wr.heap.size ≠ go := by have := GL.out;omega
   have hbn' : go ≠ wr.heap.size := fun h => hbn h.symm
   have hbn3 : wr.heap.size ≠ gb241 := by omega
   generalize wr.heap.size = gn at BN hbn hbn' hbn3 ⊢
   clear hw1 hcz3 hx0 hx1 HO_242000 BK236 BK237 BK241 HB hb241
   have hb3 : gb241 < w1.heap.size := blk_lt BK3.out
   have c30 : w1.cell? ⟨gb241, 0, none⟩ = some (.slice (some ⟨go, 0, none⟩) x242000_1.length co) := (blk_cell BK3.out 0).trans rfl
   have cn0 : w1.cell? ⟨gn, 0, none⟩ = some (.int .i64 f0) := (blk_cell BN.out 0).trans rfl
   have cn1 : w1.cell? ⟨gn, 1, none⟩ = some (.int .i64 f1) := (blk_cell BN.out 1).trans rfl
   obtain ⟨cx0, cf0⟩ := Kd.R_celln 0 HO1.out f0 i0 i1
   have HP0 := Kd.R_putg HO1.out f0 (Go.bits .or .i64 (rd x242000_1 f0) (shl .i64 1 f1))
   refine still_tail_drew 11 (by kernel_rfl) (by kernel_rfl) ?_
   simp only [List.take_succ_cons, List.take_zero, List.drop_succ_cons, List.drop_zero]
   replace i0 := eq_true i0
   replace i1 := eq_true i1
   replace j0 := eq_true j0
   replace j1 := eq_true j1
   repeat still_step
   refine wpStill_nil ?_
   have hx1 := eq_true HL.out
   generalize hV0 : Go.bits .or .i64 (rdOf 0 x242000_1 f0) (IntKind.i64.wrap (2 ^ min f1.toNat 64)) = V0
   have HV0 := Aside0.mk hV0
   have HP := Aside0.mk (Kd.R_putg HO1.out f0 V0).1
   clear hV0 HP0
   go_wp2
   generalize hw3 : (World.setCell _ _ _) = w3
   obtain ⟨ys, hys⟩ : ∃ ys, ys = x242000_1.set f0.toNat V0 := ⟨_, rfl⟩
   have HYS := Aside0.mk hys
   have HO3 : Aside0 (Kd.R (Kd.int .i64) 3 w3 w.heap.size (fun _ => True) (.slice (some ⟨go, 0, none⟩) ys.length co) ys) := ⟨by rw [← hw3, hys];have := HP.out;rw [List.length_set];exact this⟩
   have hyl : ys.length = x242000_1.length := by rw [hys];simp
   have HYL3 := Aside0.mk hyl
   have B3N : Aside0 (w3.heap[gn]? = some (.cells #[.int .i64 f0, .int .i64 f1] 80 (0, 0))) := ⟨by rw [← hw3];exact blk_far BN.out hbn _⟩
   have g236 : gb236 ≠ go := fun hE => by
    have h1 := HO1.out;have h2 := Kd.R_form h1 (by have := of_eq_true i1;have := of_eq_true i0;omega)
    obtain ⟨g', c', e', _, _, cl', hh'⟩ := h2;cases e';rw [← hE, BK1.out] at hh';simp at hh'
   have g237 : gb237 ≠ go := fun hE => by
    have h1 := HO1.out;have h2 := Kd.R_form h1 (by have := of_eq_true i1;have := of_eq_true i0;omega)
    obtain ⟨g', c', e', _, _, cl', hh'⟩ := h2;cases e';rw [← hE, BK2.out] at hh';simp at hh'
   have B31 : Aside0 (w3.heap[gb236]? = some (.cells #[.int .i64 a0_0, (.slice (some ad) l0_1.length c0_1)] 29 (0, 0))) := ⟨by rw [← hw3];exact blk_far BK1.out g236 _⟩
   have B32 : Aside0 (w3.heap[gb237]? = some (.cells #[(.slice none 0 0)] 56 (0, 0))) := ⟨by rw [← hw3];exact blk_far BK2.out g237 _⟩
   have B33 : Aside0 (w3.heap[gb241]? = some (.cells #[.slice (some ⟨go, 0, none⟩) ys.length co] 56 (0, 0))) := ⟨by rw [← hw3, hyl];exact blk_far BK3.out gne' _⟩
   have HB3 : Aside0 (Below w.heap.size w w3) := ⟨by rw [← hw3];exact below_set HB1.out GB.out⟩
   clear hw3 HP HO1 BN BK1 BK2 BK3 HB1 c30 cn0 cn1 cx0 cf0 hb3
   generalize hw4 : World.drew w3 = w4
   replace B3N : Aside0 (w4.heap[gn]? = some (.cells #[.int .i64 f0, .int .i64 f1] 80 (0, 0))) := ⟨by rw [← hw4];exact B3N.out⟩
   replace B31 : Aside0 (w4.heap[gb236]? = some (.cells #[.int .i64 a0_0, (.slice (some ad) l0_1.length c0_1)] 29 (0, 0))) := ⟨by rw [← hw4];exact B31.out⟩
   replace B32 : Aside0 (w4.heap[gb237]? = some (.cells #[(.slice none 0 0)] 56 (0, 0))) := ⟨by rw [← hw4];exact B32.out⟩
   replace B33 : Aside0 (w4.heap[gb241]? = some (.cells #[.slice (some ⟨go, 0, none⟩) ys.length co] 56 (0, 0))) := ⟨by rw [← hw4];exact B33.out⟩
   replace HB3 : Aside0 (Below w.heap.size w w4) := ⟨by rw [← hw4];exact below_drew HB3.out⟩
   replace HO3 : Aside0 (Kd.R (Kd.int .i64) 3 w4 w.heap.size (fun _ => True) (.slice (some ⟨go, 0, none⟩) ys.length co) ys) := ⟨by rw [← hw4];exact Kd.R_drew HO3.out⟩
   clear hw4 hys
   rw [← hyl] at i1 j1
   have hb3 : gb241 < w4.heap.size := blk_lt B33.out
   have c30 : w4.cell? ⟨gb241, 0, none⟩ = some (.slice (some ⟨go, 0, none⟩) ys.length co) := (blk_cell B33.out 0).trans rfl
   have cn0 : w4.cell? ⟨gn, 0, none⟩ = some (.int .i64 f0) := (blk_cell B3N.out 0).trans rfl
   have cn1 : w4.cell? ⟨gn, 1, none⟩ = some (.int .i64 f1) := (blk_cell B3N.out 1).trans rfl
   obtain ⟨cx0, cf0⟩ := Kd.R_celln 0 HO3.out f1 (of_eq_true j0) (of_eq_true j1)
   clear hyl
   refine still_tail_drew 11 (by kernel_rfl) (by kernel_rfl) ?_
   simp only [List.take_succ_cons, List.take_zero, List.drop_succ_cons, List.drop_zero]
   repeat still_step
   refine wpStill_nil ?_
   generalize hV1 : Go.bits .or .i64 (rdOf 0 ys f1) (IntKind.i64.wrap (2 ^ min f0.toNat 64)) = V1
   have HV1 := Aside0.mk hV1
   have HP := Aside0.mk (Kd.R_putg HO3.out f1 V1).1
   clear hV1
   go_wp2
   go_roundw
   case rel =>
    refine ⟨x13_1 + 1, ys.set f1.toNat V1, _, by rw [HW1.out], ⟨by have := HX.out;have := HL.out;omega⟩, ⟨?_⟩, ⟨by rw [List.length_set, HYL3.out];exact HYL.out⟩, ⟨Kd.R_drew HP.out⟩, ⟨blk_drew (blk_far B31.out g236 _)⟩, ⟨blk_drew (blk_far B32.out g237 _)⟩, ⟨blk_drew (blk_far B33.out gne' _)⟩, ⟨below_drew (below_set HB3.out GB.out)⟩⟩
    rw [← HF2.out, HST.out, ← HV1.out, HYS.out, ← HV0.out]
    simp only [shl, Int.one_mul]
    rfl
   case measure => have := HL.out;have := HX.out;rw [HW1.out];simp [intOf];omega
  ·have hlt' : decide (x13_1 < (l0_1.length : Int)) = false := decide_eq_false hlt
   obtain rfl : x242000_1 = r := by have := HF.out;rw [List.drop_eq_nil_of_le (by omega)] at this;exact this
   clear hlt
   have hnb40 := NB241_236.out
   have hnc40 := NB236_241.out
   have hnb41 := NB241_237.out
   have hnc41 := NB237_241.out
   have hcz42_0 : wr.cell? ⟨gb241, 0, none⟩ = some (u242000) := (blk_cell BK241.out 0).trans rfl
   have hfz42_0 := blk_frozen BK241.out 0
   obtain ⟨Ao43, co43, eo43⟩ := Kd.R_slice HO_242000.out
   subst eo43
   have hnb44 := NB237_236.out
   have hnc44 := NB236_237.out
   have hcz45_0 : wr.cell? ⟨gb237, 0, none⟩ = some (.slice none 0 0) := (blk_cell BK237.out 0).trans rfl
   have hfz45_0 := blk_frozen BK237.out 0
   go_wp2
   refine bodyPost_ret (results_cell_row rfl _ _ gb237 56 #[.slice Ao43 x242000_1.length co43] (0, 0) _ rfl (by refine kP ?_;refine blk_put (cs := #[.slice none 0 0]) ?_ 0 _ rfl;exact kP BK237.out) Try.underlying56 rfl (by kernel_rfl)) rfl ?_
   exact ⟨_, by first | rfl | (simp [errW_none, errW_some] <;> rfl) | (simp [*, errW_none, errW_some] <;> rfl), by refine rP ?_;exact Kd.R_mono (Kd.R_far (p := ⟨gb237, 0, none⟩) (Kd.R_types HO_242000.out BK237.out (by decide)) (fun _ hk => hk.2) (.slice Ao43 x242000_1.length co43)) (fun _ hk => trivial), by exact bB⟩

end Go.Proofs.Ytaddgielnfhhpaa.QFortsOf
