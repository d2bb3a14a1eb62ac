import Derived.Test.YtgahlimikndecaaDoorQBestAnswer0
namespace Go.Proofs.YtgahlimikndecaaDoor.QBestAnswer
open Go.RowKit Go.Proofs.YtgahlimikndecaaDoorW.PrintWords Go.Proofs.YtgahlimikndecaaDoorW.PrintLast Go.Proofs.YtgahlimikndecaaDoorW.PrintMore
attribute [local go_sem] max2_int min2_int max_two min_two max_three min_three max_four min_four   -- for this text's walks alone
set_option linter.unusedVariables false
set_option linter.unusedSimpArgs false
set_option maxRecDepth 100000
set_option maxHeartbeats 8000000
/-! ### spec_l1Rising: function 69 -/
def spec_l1Rising.l0 : Nat → List Int → Int → Int → Int → Option (Bool)
 | 0, _, _, _, _ => none
 | k + 1, x0, x1, x2, x7 => if x7 < (x0.length : Int) then (if 0 ≤ x7 then ((spec_l1In.f (rd x0 x7) x1 x2).bind fun t141 => (if t141 = true then (if x7 > 0 then (if 0 ≤ (wrap64 (x7 - 1)) then (if (wrap64 (x7 - 1)) < (x0.length : Int) then (if (rd x0 (wrap64 (x7 - 1))) ≥ (rd x0 x7) then (some false) else (spec_l1Rising.l0 k x0 x1 x2 (wrap64 (x7 + 1)))) else (none)) else (none)) else (spec_l1Rising.l0 k x0 x1 x2 (wrap64 (x7 + 1)))) else (some false))) else (none)) else (some true)
def spec_l1Rising.f (k : Nat) (l0 : List Int) (a1 : Int) (a2 : Int) : Option (Bool) := spec_l1Rising.l0 k l0 a1 a2 0
theorem spec_l1Rising.mono_l : ∀ k, (∀ y0 y1 y2 y3, LeO (spec_l1Rising.l0 k y0 y1 y2 y3) (spec_l1Rising.l0 (k + 1) y0 y1 y2 y3))
 | 0 => fun _ _ _ _ r h => by simp [spec_l1Rising.l0] at h
 | k + 1 => by
  have ih0 := spec_l1Rising.mono_l k
  ·intro y0 y1 y2 y3
   unfold spec_l1Rising.l0
   repeat' first
   | (with_reducible exact ih0 _ _ _ _)
   | (with_reducible exact LeO.refl _)
   | (with_reducible exact LeO.none _)
   | (with_reducible refine LeO.ite ?_ ?_)
   | (with_reducible refine LeO.bind ?_ (fun _ => ?_))
   | exact LeO.none _
   | refine LeO.ite ?_ ?_
   | refine LeO.bind ?_ (fun _ => ?_)
theorem spec_l1Rising.mono : ∀ a0 a1 a2 k, LeO (spec_l1Rising.f k a0 a1 a2) (spec_l1Rising.f (k + 1) a0 a1 a2) := by
 intro a0 a1 a2 k
 have ih0 := spec_l1Rising.mono_l k
 unfold spec_l1Rising.f
 repeat' first
   | (with_reducible exact ih0 _ _ _ _)
   | (with_reducible exact LeO.refl _)
   | (with_reducible exact LeO.none _)
   | (with_reducible refine LeO.ite ?_ ?_)
   | (with_reducible refine LeO.bind ?_ (fun _ => ?_))
   | exact LeO.none _
   | refine LeO.ite ?_ ?_
   | refine LeO.bind ?_ (fun _ => ?_)
theorem spec_l1Rising.calls (k : Nat) (A0 : Option Addr) (c0 : Nat) (l0 : List Int) (a1 : Int) (a2 : Int) (r : Bool) (w : World) (hr0 : Kd.C (Kd.int .i64) w A0 l0.length l0) (hc0 : l0.length ≤ c0) (h : spec_l1Rising.f k l0 a1 a2 = some r) :
  Calls Tryd.prog 69 #[.slice A0 l0.length c0, .int .i64 a1, .int .i64 a2] w fun e w' => e = .returned (.bool r) ∧ Drawn0 w w' := by
 have HR0 := Aside0.mk hr0
 have HC0 := Aside0.mk hc0
 clear hr0 hc0
 have H : (spec_l1Rising.l0 k l0 a1 a2 0) = some r := h
 clear h
 have H' := Aside0.mk H
 clear H
 go_enter Tryd.func69, Tryd.ntmps69
 go_wp2
 repeat (go_quiet (fail);try go_wp2)
 go_loopg [7] k (fun kq v7 w' => ∃ (x7_1 : Int), v7 = .int .i64 x7_1 ∧ Aside0 (spec_l1Rising.l0 kq l0 a1 a2 x7_1 = some r) ∧ Aside0 (kq ≤ k) ∧ Drawn0 w w')
 case atStart => exact ⟨(0), eF, H', ⟨Nat.le_refl _⟩, dR⟩
 case round =>
  clear H'
  try clear p2
  obtain ⟨x7_1, rfl, HA, HK1, ⟨m1, rfl⟩⟩ := hrel
  cases gk with
  | zero => exact absurd HA.out (by simp [spec_l1Rising.l0])
  | succ k1 =>
   have H := HA.out
   clear HA
   simp only [spec_l1Rising.l0] at H
   by_cases c4 : x7_1 < (l0.length : Int)
   rotate_left
   ·rw [if_neg c4] at H
    have c4b0 : decide (x7_1 < (l0.length : Int)) = false := decide_eq_false c4
    clear c4
    obtain rfl := Option.some.inj H
    go_wp2
    repeat (go_quiet (fail);try go_wp2)
    go_ret
    exact ⟨eF, dR⟩
   rw [if_pos c4] at H
   have c4b0 : decide (x7_1 < (l0.length : Int)) = true := decide_eq_true c4
   clear c4
   by_cases c5 : 0 ≤ x7_1
   rotate_left
   ·rw [if_neg c5] at H
    exact absurd H (by simp)
   rw [if_pos c5] at H
   have c5b0 : decide (0 ≤ x7_1) = true := decide_eq_true c5
   clear c5
   replace H := Option.bind_eq_some_iff.mp H
   obtain ⟨t141, A60, H⟩ := H
   replace H : (if t141 = true then (if x7_1 > 0 then (if 0 ≤ (wrap64 (x7_1 - 1)) then (if (wrap64 (x7_1 - 1)) < (l0.length : Int) then (if (rd l0 (wrap64 (x7_1 - 1))) ≥ (rd l0 x7_1) then (some false) else (spec_l1Rising.l0 k1 l0 a1 a2 (wrap64 (x7_1 + 1)))) else (none)) else (none)) else (spec_l1Rising.l0 k1 l0 a1 a2 (wrap64 (x7_1 + 1)))) else (some false)) = some r := H
   have A6 := Aside0.mk A60
   clear A60
   by_cases c7 : t141 = true
   rotate_left
   ·replace c7 := Bool.eq_false_iff.mpr c7
    subst c7
    have H1 : (some false) = some r := by rw [if_neg (show ¬ (false = true) by decide)] at H;exact H
    clear H
    have H := H1
    clear H1
    obtain rfl := Option.some.inj H
    have p140 : 0 ≤ (x7_1 : Int) := oA
    have q140 : x7_1 < (l0.length : Int) := oA
    obtain ⟨ad140, e140, hx140_0⟩ := Kd.at_int HR0.out x7_1 p140 q140
    cases e140
    replace p140 := eq_true p140
    replace q140 := eq_true q140
    go_wp2_with (first | (go_at_call 56;(with_reducible refine (spec_l1In.calls (rd l0 x7_1) a1 a2 false _ A6.out).mono ?_);rintro e w' ⟨rfl, ⟨nd, rfl⟩⟩;(try first | exact ⟨rfl, _, World.drewN_drewN _ _ _⟩ | exact ⟨rfl, _, Eq.trans (World.drewN_drewN _ _ _) (congrArg (World.drewN _) (Nat.add_assoc _ _ _))⟩)))
    repeat (go_quiet (first | (go_at_call 56;(with_reducible refine (spec_l1In.calls (rd l0 x7_1) a1 a2 false _ A6.out).mono ?_);rintro e w' ⟨rfl, ⟨nd, rfl⟩⟩;(try first | exact ⟨rfl, _, World.drewN_drewN _ _ _⟩ | exact ⟨rfl, _, Eq.trans (World.drewN_drewN _ _ _) (congrArg (World.drewN _) (Nat.add_assoc _ _ _))⟩)));try go_wp2_with (first | (go_at_call 56;(with_reducible refine (spec_l1In.calls (rd l0 x7_1) a1 a2 false _ A6.out).mono ?_);rintro e w' ⟨rfl, ⟨nd, rfl⟩⟩;(try first | exact ⟨rfl, _, World.drewN_drewN _ _ _⟩ | exact ⟨rfl, _, Eq.trans (World.drewN_drewN _ _ _) (congrArg (World.drewN _) (Nat.add_assoc _ _ _))⟩))))
    go_ret
    exact ⟨eF, dR⟩
   subst c7
   have H1 : (if x7_1 > 0 then (if 0 ≤ (wrap64 (x7_1 - 1)) then (if (wrap64 (x7_1 - 1)) < (l0.length : Int) then (if (rd l0 (wrap64 (x7_1 - 1))) ≥ (rd l0 x7_1) then (some false) else (spec_l1Rising.l0 k1 l0 a1 a2 (wrap64 (x7_1 + 1)))) else (none)) else (none)) else (spec_l1Rising.l0 k1 l0 a1 a2 (wrap64 (x7_1 + 1)))) = some r := by rw [if_pos rfl] at H;exact H
   clear H
   have H := H1
   clear H1
   by_cases c8 : x7_1 > 0
   rotate_left
   ·rw [if_neg c8] at H
    have c8b0 : decide (0 < x7_1) = false := decide_eq_false c8
    clear c8
    have H' := Aside0.mk H
    clear H
    have p140 : 0 ≤ (x7_1 : Int) := oA
    have q140 : x7_1 < (l0.length : Int) := oA
    obtain ⟨ad140, e140, hx140_0⟩ := Kd.at_int HR0.out x7_1 p140 q140
    cases e140
    replace p140 := eq_true p140
    replace q140 := eq_true q140
    go_wp2_with (first | (go_at_call 56;(with_reducible refine (spec_l1In.calls (rd l0 x7_1) a1 a2 true _ A6.out).mono ?_);rintro e w' ⟨rfl, ⟨nd, rfl⟩⟩;(try first | exact ⟨rfl, _, World.drewN_drewN _ _ _⟩ | exact ⟨rfl, _, Eq.trans (World.drewN_drewN _ _ _) (congrArg (World.drewN _) (Nat.add_assoc _ _ _))⟩)))
    repeat (go_quiet (first | (go_at_call 56;(with_reducible refine (spec_l1In.calls (rd l0 x7_1) a1 a2 true _ A6.out).mono ?_);rintro e w' ⟨rfl, ⟨nd, rfl⟩⟩;(try first | exact ⟨rfl, _, World.drewN_drewN _ _ _⟩ | exact ⟨rfl, _, Eq.trans (World.drewN_drewN _ _ _) (congrArg (World.drewN _) (Nat.add_assoc _ _ _))⟩)));try go_wp2_with (first | (go_at_call 56;(with_reducible refine (spec_l1In.calls (rd l0 x7_1) a1 a2 true _ A6.out).mono ?_);rintro e w' ⟨rfl, ⟨nd, rfl⟩⟩;(try first | exact ⟨rfl, _, World.drewN_drewN _ _ _⟩ | exact ⟨rfl, _, Eq.trans (World.drewN_drewN _ _ _) (congrArg (World.drewN _) (Nat.add_assoc _ _ _))⟩))))
    go_roundg k1
    case measure => have := HK1.out;omega
    case rel => exact ⟨(wrap64 (x7_1 + 1)), eF, H', ⟨by have := HK1.out;omega⟩, dR⟩
   rw [if_pos c8] at H
   have c8b0 : decide (0 < x7_1) = true := decide_eq_true c8
   clear c8
   obtain ⟨ji9, hji9⟩ : ∃ j_ : Int, (wrap64 (x7_1 - 1)) = j_ := ⟨_, rfl⟩
   replace H : (if 0 ≤ (ji9) then (if (ji9) < (l0.length : Int) then (if (rd l0 (ji9)) ≥ (rd l0 x7_1) then (some false) else (spec_l1Rising.l0 k1 l0 a1 a2 (wrap64 (x7_1 + 1)))) else (none)) else (none)) = some r := by first | (rw [hji9] at H;exact H) | (simp only [hji9] at H ⊢;exact H)
   (try rw [hji9] at A6)
   have hji9w : (IntKind.i64.wrap (x7_1 - 1)) = ji9 := (i64_w _).trans hji9
   by_cases c10 : 0 ≤ (ji9)
   rotate_left
   ·rw [if_neg c10] at H
    exact absurd H (by simp)
   rw [if_pos c10] at H
   have c10b0 : decide (0 ≤ (ji9)) = true := decide_eq_true c10
   clear c10
   by_cases c11 : (ji9) < (l0.length : Int)
   rotate_left
   ·rw [if_neg c11] at H
    exact absurd H (by simp)
   rw [if_pos c11] at H
   have c11b0 : decide ((ji9) < (l0.length : Int)) = true := decide_eq_true c11
   clear c11
   by_cases c12 : (rd l0 (ji9)) ≥ (rd l0 x7_1)
   ·rw [if_pos c12] at H
    have c12b0 : decide ((rd l0 x7_1) ≤ (rd l0 (ji9))) = true := decide_eq_true c12
    clear c12
    obtain rfl := Option.some.inj H
    have p140 : 0 ≤ (x7_1 : Int) := oA
    have q140 : x7_1 < (l0.length : Int) := oA
    obtain ⟨ad140, e140, hx140_0⟩ := Kd.at_int HR0.out x7_1 p140 q140
    cases e140
    replace p140 := eq_true p140
    replace q140 := eq_true q140
    go_wp2_with (first | (go_at_call 56;(with_reducible refine (spec_l1In.calls (rd l0 x7_1) a1 a2 true _ A6.out).mono ?_);rintro e w' ⟨rfl, ⟨nd, rfl⟩⟩;(try first | exact ⟨rfl, _, World.drewN_drewN _ _ _⟩ | exact ⟨rfl, _, Eq.trans (World.drewN_drewN _ _ _) (congrArg (World.drewN _) (Nat.add_assoc _ _ _))⟩);have p142 : 0 ≤ ((ji9) : Int) := oA;have q142 : (ji9) < (l0.length : Int) := oA;obtain ⟨ad142, e142, hx142_0⟩ := Kd.at_int HR0.out (ji9) p142 q142;obtain rfl : ad140 = ad142 := (by injection e142);replace p142 := eq_true p142;replace q142 := eq_true q142;have p143 : 0 ≤ (x7_1 : Int) := oA;have q143 : x7_1 < (l0.length : Int) := oA;obtain ⟨ad143, e143, hx143_0⟩ := Kd.at_int HR0.out x7_1 p143 q143;obtain rfl : ad140 = ad143 := (by injection e143);replace p143 := eq_true p143;replace q143 := eq_true q143))
    repeat (go_quiet (first | (go_at_call 56;(with_reducible refine (spec_l1In.calls (rd l0 x7_1) a1 a2 true _ A6.out).mono ?_);rintro e w' ⟨rfl, ⟨nd, rfl⟩⟩;(try first | exact ⟨rfl, _, World.drewN_drewN _ _ _⟩ | exact ⟨rfl, _, Eq.trans (World.drewN_drewN _ _ _) (congrArg (World.drewN _) (Nat.add_assoc _ _ _))⟩);have p142 : 0 ≤ ((ji9) : Int) := oA;have q142 : (ji9) < (l0.length : Int) := oA;obtain ⟨ad142, e142, hx142_0⟩ := Kd.at_int HR0.out (ji9) p142 q142;obtain rfl : ad140 = ad142 := (by injection e142);replace p142 := eq_true p142;replace q142 := eq_true q142;have p143 : 0 ≤ (x7_1 : Int) := oA;have q143 : x7_1 < (l0.length : Int) := oA;obtain ⟨ad143, e143, hx143_0⟩ := Kd.at_int HR0.out x7_1 p143 q143;obtain rfl : ad140 = ad143 := (by injection e143);replace p143 := eq_true p143;replace q143 := eq_true q143));try go_wp2_with (first | (go_at_call 56;(with_reducible refine (spec_l1In.calls (rd l0 x7_1) a1 a2 true _ A6.out).mono ?_);rintro e w' ⟨rfl, ⟨nd, rfl⟩⟩;(try first | exact ⟨rfl, _, World.drewN_drewN _ _ _⟩ | exact ⟨rfl, _, Eq.trans (World.drewN_drewN _ _ _) (congrArg (World.drewN _) (Nat.add_assoc _ _ _))⟩);have p142 : 0 ≤ ((ji9) : Int) := oA;have q142 : (ji9) < (l0.length : Int) := oA;obtain ⟨ad142, e142, hx142_0⟩ := Kd.at_int HR0.out (ji9) p142 q142;obtain rfl : ad140 = ad142 := (by injection e142);replace p142 := eq_true p142;replace q142 := eq_true q142;have p143 : 0 ≤ (x7_1 : Int) := oA;have q143 : x7_1 < (l0.length : Int) := oA;obtain ⟨ad143, e143, hx143_0⟩ := Kd.at_int HR0.out x7_1 p143 q143;obtain rfl : ad140 = ad143 := (by injection e143);replace p143 := eq_true p143;replace q143 := eq_true q143)))
    go_ret
    exact ⟨by first | rfl | (simp;done) | (simp only [← hji9] <;> (first | rfl | simp)) | (simp [*];done), dR⟩
   rw [if_neg c12] at H
   have c12b0 : decide ((rd l0 x7_1) ≤ (rd l0 (ji9))) = false := decide_eq_false c12
   clear c12
   have H' := Aside0.mk H
   clear H
   have p140 : 0 ≤ (x7_1 : Int) := oA
   have q140 : x7_1 < (l0.length : Int) := oA
   obtain ⟨ad140, e140, hx140_0⟩ := Kd.at_int HR0.out x7_1 p140 q140
   cases e140
   replace p140 := eq_true p140
   replace q140 := eq_true q140
   go_wp2_with (first | (go_at_call 56;(with_reducible refine (spec_l1In.calls (rd l0 x7_1) a1 a2 true _ A6.out).mono ?_);rintro e w' ⟨rfl, ⟨nd, rfl⟩⟩;(try first | exact ⟨rfl, _, World.drewN_drewN _ _ _⟩ | exact ⟨rfl, _, Eq.trans (World.drewN_drewN _ _ _) (congrArg (World.drewN _) (Nat.add_assoc _ _ _))⟩);have p142 : 0 ≤ ((ji9) : Int) := oA;have q142 : (ji9) < (l0.length : Int) := oA;obtain ⟨ad142, e142, hx142_0⟩ := Kd.at_int HR0.out (ji9) p142 q142;obtain rfl : ad140 = ad142 := (by injection e142);replace p142 := eq_true p142;replace q142 := eq_true q142;have p143 : 0 ≤ (x7_1 : Int) := oA;have q143 : x7_1 < (l0.length : Int) := oA;obtain ⟨ad143, e143, hx143_0⟩ := Kd.at_int HR0.out x7_1 p143 q143;obtain rfl : ad140 = ad143 := (by injection e143);replace p143 := eq_true p143;replace q143 := eq_true q143))
   repeat (go_quiet (first | (go_at_call 56;(with_reducible refine (spec_l1In.calls (rd l0 x7_1) a1 a2 true _ A6.out).mono ?_);rintro e w' ⟨rfl, ⟨nd, rfl⟩⟩;(try first | exact ⟨rfl, _, World.drewN_drewN _ _ _⟩ | exact ⟨rfl, _, Eq.trans (World.drewN_drewN _ _ _) (congrArg (World.drewN _) (Nat.add_assoc _ _ _))⟩);have p142 : 0 ≤ ((ji9) : Int) := oA;have q142 : (ji9) < (l0.length : Int) := oA;obtain ⟨ad142, e142, hx142_0⟩ := Kd.at_int HR0.out (ji9) p142 q142;obtain rfl : ad140 = ad142 := (by injection e142);replace p142 := eq_true p142;replace q142 := eq_true q142;have p143 : 0 ≤ (x7_1 : Int) := oA;have q143 : x7_1 < (l0.length : Int) := oA;obtain ⟨ad143, e143, hx143_0⟩ := Kd.at_int HR0.out x7_1 p143 q143;obtain rfl : ad140 = ad143 := (by injection e143);replace p143 := eq_true p143;replace q143 := eq_true q143));try go_wp2_with (first | (go_at_call 56;(with_reducible refine (spec_l1In.calls (rd l0 x7_1) a1 a2 true _ A6.out).mono ?_);rintro e w' ⟨rfl, ⟨nd, rfl⟩⟩;(try first | exact ⟨rfl, _, World.drewN_drewN _ _ _⟩ | exact ⟨rfl, _, Eq.trans (World.drewN_drewN _ _ _) (congrArg (World.drewN _) (Nat.add_assoc _ _ _))⟩);have p142 : 0 ≤ ((ji9) : Int) := oA;have q142 : (ji9) < (l0.length : Int) := oA;obtain ⟨ad142, e142, hx142_0⟩ := Kd.at_int HR0.out (ji9) p142 q142;obtain rfl : ad140 = ad142 := (by injection e142);replace p142 := eq_true p142;replace q142 := eq_true q142;have p143 : 0 ≤ (x7_1 : Int) := oA;have q143 : x7_1 < (l0.length : Int) := oA;obtain ⟨ad143, e143, hx143_0⟩ := Kd.at_int HR0.out x7_1 p143 q143;obtain rfl : ad140 = ad143 := (by injection e143);replace p143 := eq_true p143;replace q143 := eq_true q143)))
   go_roundg k1
   case measure => have := HK1.out;omega
   case rel => exact ⟨(wrap64 (x7_1 + 1)), eF, H', ⟨by have := HK1.out;omega⟩, dR⟩


/-! ### spec_l2Set: function 38 -/
def spec_l2Set.f (k : Nat) (a0_0 : Int) (l0_1 : List (S78)) (l1 : List Int) : Option (Bool) := (spec_l1Rising.f k l1 0 (wrap64 (a0_0 - 1))).bind fun t145 => (some t145)
theorem spec_l2Set.mono : ∀ a0 a1 a2 k, LeO (spec_l2Set.f k a0 a1 a2) (spec_l2Set.f (k + 1) a0 a1 a2) := by
 intro a0 a1 a2 k
 unfold spec_l2Set.f
 repeat' first
   | (with_reducible exact spec_l1Rising.mono _ _ _ _)
   | (with_reducible exact LeO.refl _)
   | (with_reducible exact LeO.none _)
   | (with_reducible refine LeO.ite ?_ ?_)
   | (with_reducible refine LeO.bind ?_ (fun _ => ?_))
   | exact LeO.none _
   | refine LeO.ite ?_ ?_
   | refine LeO.bind ?_ (fun _ => ?_)
theorem spec_l2Set.calls (k : Nat) (a0_0 : Int) (A0_1 : Option Addr) (c0_1 : Nat) (l0_1 : List (S78)) (A1 : Option Addr) (c1 : Nat) (l1 : List Int) (r : Bool) (w : World) (hr0_1 : Kd.C k78 w A0_1 l0_1.length l0_1) (hc0_1 : l0_1.length ≤ c0_1) (hr1 : Kd.C (Kd.int .i64) w A1 l1.length l1) (hc1 : l1.length ≤ c1) (h : spec_l2Set.f k a0_0 l0_1 l1 = some r) :
  Calls Tryd.prog 38 #[.agg #[.int .i64 a0_0, .slice A0_1 l0_1.length c0_1], .slice A1 l1.length c1] w fun e w' => e = .returned (.bool r) ∧ Below w.heap.size w w' := by
 have hu29 := Tryd.underlying29
 have HR0_1 := Aside0.mk hr0_1
 have HC0_1 := Aside0.mk hc0_1
 clear hr0_1 hc0_1
 have HR1 := Aside0.mk hr1
 have HC1 := Aside0.mk hc1
 clear hr1 hc1
 have HB := aM (Below.refl w.heap.size w)
 have H : ((spec_l1Rising.f k l1 0 (wrap64 (a0_0 - 1))).bind fun t145 => (some t145)) = some r := h
 clear h
 replace H := Option.bind_eq_some_iff.mp H
 obtain ⟨t145, A30, H⟩ := H
 replace H : (some t145) = some r := H
 have A3 := Aside0.mk A30
 clear A30
 obtain rfl := Option.some.inj H
 go_enter Tryd.func38, Tryd.ntmps38
 go_wp2_with (first | ((with_reducible refine gate_dst (N := 2) rfl ?_);refine box_event ?hg (N := 2) ?hd (cs := #[.int .i64 a0_0, .slice A0_1 l0_1.length c0_1]) (t := 29) ?hr ?_;(case hd => rfl);(case hg => rfl);(case hr => exact gS);intro gb144 hg w4 hbox hb;have n0_ := aM (below_step (by exact bB) hb);have n1_ := aM (hbox);have n2_ := aM (sW hg : w.heap.size ≤ gb144);have n3_ := aM (sW hg : w.heap.size ≤ gb144);clear HB;have HB := n0_;have BK144 := n1_;have GW144 := n2_;have GE144 := n3_;clear n0_ n1_ n2_ n3_;clear hb hbox hg;have hcz5_0 := bC0 BK144.out;have hcz5_1 := bC1 BK144.out;have hfz5_0 := blk_frozen BK144.out 0;have hfz5_1 := blk_frozen BK144.out 1) | ((with_reducible refine gate_callee (f := 69) rfl ?_);refine goesL_ (some 9) rfl rfl Tryd.func69 (by kernel_rfl) rfl #[.slice A1 l1.length c1, .int .i64 0, .int .i64 (wrap64 (a0_0 - 1))] rfl mM ?_;(with_reducible refine (spec_l1Rising.calls k _ _ l1 0 (wrap64 (a0_0 - 1)) t145 _ ?side1 ?side2 A3.out).mono ?_);(case side1 => exact cP (Kd.C_below HR1.out HB.out));(case side2 => exact HC1.out);rintro e w' ⟨rfl, ⟨nd, rfl⟩⟩;refine ⟨_, rfl, ?_⟩))
 go_ret
 exact ⟨eW, by exact bB⟩


/-! ### spec_l8Choices: function 70 -/
mutual
def spec_l8Choices.l0 : Nat → List Int → Int → List (List Int) → Int → Option ((List (List Int)))
 | 0, _, _, _, _ => none
 | k + 1, x0, x1, x5, x6 => if (wrap64 (x6 + x1)) ≤ (x0.length : Int) then (if 0 ≤ (wrap64 (x6 + 1)) then (if (wrap64 (x6 + 1)) ≤ (x0.length : Int) then ((spec_l8Choices.f k (x0.drop ((wrap64 (x6 + 1)) : Int).toNat) (wrap64 (x1 - 1))).bind fun t156 => (spec_l8Choices.l1 k x0 x1 x5 x6 t156 0)) else (none)) else (none)) else (some x5)
def spec_l8Choices.l1 : Nat → List Int → Int → List (List Int) → Int → List (List Int) → Int → Option ((List (List Int)))
 | 0, _, _, _, _, _, _ => none
 | k + 1, x0, x1, x5, x6, x7, x8 => if x8 < (x7.length : Int) then (if 0 ≤ x6 then (if x6 < (x0.length : Int) then ((some (([rd x0 x6] : List Int) : List Int)).bind fun y160 => (if 0 ≤ x8 then (if y160.length + (rd_L2 x7 x8).length < 17592186044416 then (if x5.length < 5864062014805 then (spec_l8Choices.l1 k x0 x1 (x5 ++ [(y160 ++ (rd_L2 x7 x8))]) x6 x7 (wrap64 (x8 + 1))) else (none)) else (none)) else (none))) else (none)) else (none)) else (spec_l8Choices.l0 k x0 x1 x5 (wrap64 (x6 + 1)))
def spec_l8Choices.f : Nat → List Int → Int → Option ((List (List Int)))
 | 0, _, _ => none
 | k + 1, l0, a1 => if a1 = 0 then (some (([(([] : List Int))] : List (List Int)))) else (spec_l8Choices.l0 k l0 a1 (([] : List (List Int))) 0)
end
theorem spec_l8Choices.mono_l : ∀ k, (∀ y0 y1, LeO (spec_l8Choices.f k y0 y1) (spec_l8Choices.f (k + 1) y0 y1)) ∧ (∀ y0 y1 y2 y3, LeO (spec_l8Choices.l0 k y0 y1 y2 y3) (spec_l8Choices.l0 (k + 1) y0 y1 y2 y3)) ∧ (∀ y0 y1 y2 y3 y4 y5, LeO (spec_l8Choices.l1 k y0 y1 y2 y3 y4 y5) (spec_l8Choices.l1 (k + 1) y0 y1 y2 y3 y4 y5))
 | 0 => ⟨fun _ _ r h => by simp [spec_l8Choices.f] at h, fun _ _ _ _ r h => by simp [spec_l8Choices.l0] at h, fun _ _ _ _ _ _ r h => by simp [spec_l8Choices.l1] at h⟩
 | k + 1 => by
  obtain ⟨ih0, ih1, ih2⟩ := spec_l8Choices.mono_l k
  refine ⟨?_, ?_, ?_⟩
  ·intro y0 y1
   unfold spec_l8Choices.f
   repeat' first
   | (with_reducible exact ih0 _ _)
   | (with_reducible exact ih1 _ _ _ _)
   | (with_reducible exact ih2 _ _ _ _ _ _)
   | (with_reducible exact LeO.refl _)
   | (with_reducible exact LeO.none _)
   | (with_reducible refine LeO.ite ?_ ?_)
   | (with_reducible refine LeO.bind ?_ (fun _ => ?_))
   | exact LeO.none _
   | refine LeO.ite ?_ ?_
   | refine LeO.bind ?_ (fun _ => ?_)
  ·intro y0 y1 y2 y3
   unfold spec_l8Choices.l0
   repeat' first
   | (with_reducible exact ih0 _ _)
   | (with_reducible exact ih1 _ _ _ _)
   | (with_reducible exact ih2 _ _ _ _ _ _)
   | (with_reducible exact LeO.refl _)
   | (with_reducible exact LeO.none _)
   | (with_reducible refine LeO.ite ?_ ?_)
   | (with_reducible refine LeO.bind ?_ (fun _ => ?_))
   | exact LeO.none _
   | refine LeO.ite ?_ ?_
   | refine LeO.bind ?_ (fun _ => ?_)
  ·intro y0 y1 y2 y3 y4 y5
   unfold spec_l8Choices.l1
   repeat' first
   | (with_reducible exact ih0 _ _)
   | (with_reducible exact ih1 _ _ _ _)
   | (with_reducible exact ih2 _ _ _ _ _ _)
   | (with_reducible exact LeO.refl _)
   | (with_reducible exact LeO.none _)
   | (with_reducible refine LeO.ite ?_ ?_)
   | (with_reducible refine LeO.bind ?_ (fun _ => ?_))
   | exact LeO.none _
   | refine LeO.ite ?_ ?_
   | refine LeO.bind ?_ (fun _ => ?_)
theorem spec_l8Choices.mono : ∀ a0 a1 k, LeO (spec_l8Choices.f k a0 a1) (spec_l8Choices.f (k + 1) a0 a1) := by
 intro a0 a1 k
 obtain ⟨ih0, ih1, ih2⟩ := spec_l8Choices.mono_l k
 exact ih0 a0 a1
def spec_l8Choices.T11 : Bool × List (List Nat × List Nat) := (true, [([], []), ([], []), ([], []), ([1, 2], [1, 2]), ([3], [3]), ([4], [4]), ([], []), ([], []), ([6, 7], [6, 7]), ([8], [8]), ([5, 9], [5, 9]), ([10], [10]), ([0, 11, 10], [0, 11]), ([12, 12, 0, 1, 2, 3, 4, 5, 6, 7, 8, 9, 10, 11, 12], [0, 12])])
def spec_l8Choices.B11 : List Nat := [0, 0, 0, 6, 14, 30, 0, 0, 192, 448, 1022, 2046, 4095, 8191]
theorem spec_l8Choices.tab11 : rtab .any (opsOf Tryd.f70 11) = spec_l8Choices.T11 := by kernel_rfl
theorem spec_l8Choices.bits11 : waitsOk spec_l8Choices.T11.2 spec_l8Choices.B11 = true := by kernel_rfl
theorem spec_l8Choices.calls (k : Nat) : ∀ (A0 : Option Addr) (c0 : Nat) (l0 : List Int) (a1 : Int) (r : List (List Int)) (w : World) (hr0 : Kd.C (Kd.int .i64) w A0 l0.length l0) (hc0 : l0.length ≤ c0) (h : spec_l8Choices.f k l0 a1 = some r),
  Calls Tryd.prog 70 #[.slice A0 l0.length c0, .int .i64 a1] w fun e w' => ∃ v0_ : Value, e = .returned (v0_) ∧ Kd.N (Kd.slice 3 (Kd.int .i64)) 36 w' w.heap.size (fun k_ => (w.heap.size ≤ k_)) v0_ r ∧ Below w.heap.size w w' := by
 induction k using Nat.strongRecOn with
 | _ k ih =>
 intro A0 c0 l0 a1 r w hr0 hc0 h
 cases k with
 | zero => exact absurd h (by simp [spec_l8Choices.f])
 | succ k =>
 simp only [spec_l8Choices.f] at h
 have HR0 := Aside0.mk hr0
 have HC0 := Aside0.mk hc0
 clear hr0 hc0
 have HB := aM (Below.refl w.heap.size w)
 have H : (if a1 = 0 then (some (([(([] : List Int))] : List (List Int)))) else (spec_l8Choices.l0 k l0 a1 (([] : List (List Int))) 0)) = some r := h
 clear h
 by_cases c3 : a1 = 0
 ·rw [if_pos c3] at H
  have c3b0 : (a1 == 0) = true := beq_iff_eq.mpr c3
  have c3b1 : (a1 != 0) = false := bne_eq_false_iff_eq.mpr c3
  clear c3
  obtain ⟨y146, hy146⟩ : ∃ y_ : List Int, y_ = (([] : List Int)) := ⟨_, rfl⟩
  replace H : (some (([y146] : List (List Int)))) = some r := by first | (rw [hy146];with_reducible exact H) | (have H2_ := (Option.bind_some _ _).symm.trans H;rw [hy146];with_reducible exact H2_) | (have H2_ := (Option.bind_some _ _).symm.trans H;with_reducible exact H2_) | with_reducible exact H | (rw [hy146];exact H) | exact H
  have Ny146 := Aside0.mk hy146
  clear hy146
  obtain ⟨y149, hy149⟩ : ∃ y_ : List (List Int), y_ = (([y146] : List (List Int))) := ⟨_, rfl⟩
  replace H : (some y149) = some r := by first | (rw [hy149];with_reducible exact H) | (have H2_ := (Option.bind_some _ _).symm.trans H;rw [hy149];with_reducible exact H2_) | (have H2_ := (Option.bind_some _ _).symm.trans H;with_reducible exact H2_) | with_reducible exact H | (rw [hy149];exact H) | exact H
  have Ny149 := Aside0.mk hy149
  clear hy149
  obtain rfl := Option.some.inj H
  go_enter Tryd.func70, Tryd.ntmps70
  go_wp2_with (first | ((with_reducible refine gate_dst (N := 11) rfl ?_);refine Kd.R_lit (Kd.int .i64) _ 3 ?hg (N := 11) ?hd (xs := ([] : List Int)) (inner := []) (ok := fun _ => True) (okp := fun _ => True) ?hr ?hp (fun _ hk => hk) trivial (Below.refl _ _) (Nat.le_refl _) (by simp) ?_;(case hd => rfl);(case hg => rfl);(case hr => exact gS);(case hp => exact (Reps.none _ _));intro v147 w4 ho5 hb hg_ hnew_;clear hg_ hnew_;(first | rw [← Ny146.out] at ho5 | (simp only [Int.reduceToNat] at ho5;rw [← Ny146.out] at ho5));have n0_ := aM (Kd.R_lower (Kd.R_newM (M := fun k_ => (w.heap.size ≤ k_)) ho5 (below_size (by exact bB)) (fun k_ h_ => h_)) (below_size (by exact bB)));have n1_ := aM (below_step (by exact bB) hb);clear HB;have HO148 := n0_;have HB := n1_;clear n0_ n1_;clear hb ho5;obtain ⟨Ao6, co6, eo6⟩ := Kd.R_slice HO148.out;subst eo6) | ((with_reducible refine gate_dst (N := 12) rfl ?_);refine Kd.N_lit (Kd.slice 3 (Kd.int .i64)) _ 36 ?hg (N' := 12) ?hd (xs := ([y146] : List (List Int))) (inner := [.slice Ao6 y146.length co6]) (ok := (fun k_ => (w.heap.size ≤ k_))) (okp := (fun k_ => (w.heap.size ≤ k_))) ?hr ?hp (fun _ hk => hk) ((show ∀ k_, w4.heap.size ≤ k_ → (fun k_ => (w.heap.size ≤ k_)) k_ from fun k_ hk => (Nat.le_trans (below_size (by exact bB)) hk)) _ (Nat.le_refl _)) (Below.refl _ _) (Nat.le_refl _) (by simp) ?_;(case hd => rfl);(case hg => rfl);(case hr => exact gS);(case hp => exact (Reps.one (show Kd.FK (Kd.slice 3 (Kd.int .i64)) _ _ y146 [.slice Ao6 y146.length co6] from (Kd.FK_slice_mk (Kd.R_reads' (Kd.R_mono (ok' := (fun k_ => (w.heap.size ≤ k_))) (HO148.out) (fun k_ hk => hk.1))).2.1 (Kd.R_F (Kd.R_mono (ok' := (fun k_ => (w.heap.size ≤ k_))) (HO148.out) (fun k_ hk => hk.1))))) (Reps.none _ _)));intro v150 w7 ho8 hb hg_ hnew_;clear hg_ hnew_;(first | rw [← Ny149.out] at ho8 | (simp only [Int.reduceToNat] at ho8;rw [← Ny149.out] at ho8));have n0_ := aM (Kd.N_lower ho8 (below_size (by exact bB)));have n1_ := aM (below_step (by exact bB) hb);clear HB;clear HO148;have HO151 := n0_;have HB := n1_;clear n0_ n1_;clear hb ho8))
  go_ret
  exact ⟨_, eW, by (with_reducible repeat (first | apply Kd.N_alloc | apply Kd.N_drewN | apply Kd.N_drew));exact HO151.out, by exact bB⟩
 rw [if_neg c3] at H
 have c3b0 : (a1 == 0) = false := beq_eq_false_iff_ne.mpr c3
 have c3b1 : (a1 != 0) = true := bne_iff_ne.mpr c3
 obtain ⟨y152, hy152⟩ : ∃ y_ : List (List Int), y_ = (([] : List (List Int))) := ⟨_, rfl⟩
 replace H : (spec_l8Choices.l0 k l0 a1 y152 0) = some r := by first | (rw [hy152];with_reducible exact H) | (have H2_ := (Option.bind_some _ _).symm.trans H;rw [hy152];with_reducible exact H2_) | (have H2_ := (Option.bind_some _ _).symm.trans H;with_reducible exact H2_) | with_reducible exact H | (rw [hy152];exact H) | exact H
 have Ny152 := Aside0.mk hy152
 clear hy152
 have H' := Aside0.mk H
 clear H
 go_enter Tryd.func70, Tryd.ntmps70
 go_wp2_with (first | ((with_reducible refine gate_dst (N := 13) rfl ?_);refine Kd.N_lit (Kd.slice 3 (Kd.int .i64)) _ 36 ?hg (N' := 13) ?hd (xs := ([] : List (List Int))) (inner := []) (ok := (fun k_ => (w.heap.size ≤ k_))) (okp := (fun k_ => (w.heap.size ≤ k_))) ?hr ?hp (fun _ hk => hk) ((show ∀ k_, w.heap.size ≤ k_ → (fun k_ => (w.heap.size ≤ k_)) k_ from fun k_ hk => (Nat.le_trans (below_size (by exact bB)) hk)) _ (Nat.le_refl _)) (Below.refl _ _) (Nat.le_refl _) (by simp) ?_;(case hd => rfl);(case hg => rfl);(case hr => exact gS);(case hp => exact (Reps.none _ _));intro v153 w9 ho10 hb hg_ hnew_;clear hg_ hnew_;(first | rw [← Ny152.out] at ho10 | (simp only [Int.reduceToNat] at ho10;rw [← Ny152.out] at ho10));have n0_ := aM (Kd.N_lower ho10 (below_size (by exact bB)));have n1_ := aM (below_step (by exact bB) hb);clear HB;have HO154 := n0_;have HB := n1_;clear n0_ n1_;clear hb ho10))
 go_loopg [5, 6] k (fun kq v5 v6 w' => ∃ (x5_1 : List (List Int)) (x6_1 : Int), v6 = .int .i64 x6_1 ∧ Aside0 (spec_l8Choices.l0 kq l0 a1 x5_1 x6_1 = some r) ∧ Aside0 (kq ≤ k) ∧ Aside0 (Kd.N (Kd.slice 3 (Kd.int .i64)) 36 w' w.heap.size (fun k_ => (w.heap.size ≤ k_)) v5 x5_1) ∧ Aside0 (Below w.heap.size w w'))
 case atStart => exact ⟨(y152), (0), eF, H', ⟨Nat.le_refl _⟩, ⟨by (with_reducible repeat (first | apply Kd.N_alloc | apply Kd.N_drewN | apply Kd.N_drew));exact HO154.out⟩, ⟨by exact bB⟩⟩
 case round =>
  clear H'
  try clear p2
  try clear c3
  try clear c3b0
  try clear c3b1
  try clear c7
  obtain ⟨x5_1, x6_1, rfl, HA, HK1, HO_5, HB⟩ := hrel
  cases gk with
  | zero => exact absurd HA.out (by simp [spec_l8Choices.l0])
  | succ k1 =>
   have H := HA.out
   clear HA
   simp only [spec_l8Choices.l0] at H
   by_cases c11 : (wrap64 (x6_1 + a1)) ≤ (l0.length : Int)
   rotate_left
   ·rw [if_neg c11] at H
    have c11b0 : decide ((wrap64 (x6_1 + a1)) ≤ (l0.length : Int)) = false := decide_eq_false c11
    clear c11
    obtain rfl := Option.some.inj H
    go_wp2
    go_ret
    exact ⟨_, eW, by (with_reducible repeat (first | apply Kd.N_alloc | apply Kd.N_drewN | apply Kd.N_drew));exact HO_5.out, by exact bB⟩
   rw [if_pos c11] at H
   have c11b0 : decide ((wrap64 (x6_1 + a1)) ≤ (l0.length : Int)) = true := decide_eq_true c11
   clear c11
   obtain ⟨ji12, hji12⟩ : ∃ j_ : Int, (wrap64 (x6_1 + 1)) = j_ := ⟨_, rfl⟩
   replace H : (if 0 ≤ (ji12) then (if (ji12) ≤ (l0.length : Int) then ((spec_l8Choices.f k1 (l0.drop ((ji12) : Int).toNat) (wrap64 (a1 - 1))).bind fun t156 => (spec_l8Choices.l1 k1 l0 a1 x5_1 x6_1 t156 0)) else (none)) else (none)) = some r := by first | (rw [hji12] at H;exact H) | (simp only [hji12] at H ⊢;exact H)
   have hji12w : (IntKind.i64.wrap (x6_1 + 1)) = ji12 := (i64_w _).trans hji12
   by_cases c13 : 0 ≤ (ji12)
   rotate_left
   ·rw [if_neg c13] at H
    exact absurd H (by simp)
   rw [if_pos c13] at H
   have c13b0 := eq_true c13
   have c13b1 : decide (0 ≤ (ji12)) = true := decide_eq_true c13
   clear c13
   by_cases c14 : (ji12) ≤ (l0.length : Int)
   rotate_left
   ·rw [if_neg c14] at H
    exact absurd H (by simp)
   rw [if_pos c14] at H
   have c14b0 := eq_true c14
   have c14b1 : decide ((ji12) ≤ (l0.length : Int)) = true := decide_eq_true c14
   clear c14
   replace H := Option.bind_eq_some_iff.mp H
   obtain ⟨t156, A150, H⟩ := H
   replace H : (spec_l8Choices.l1 k1 l0 a1 x5_1 x6_1 t156 0) = some r := H
   have A15 := Aside0.mk A150
   clear A150
   have H' := Aside0.mk H
   clear H
   obtain ⟨i016, hi016, _, hsz16, _⟩ := info_parts info3
   obtain ⟨A16, hcut16, hA16, hC16⟩ := print_drop_of (P := Tryd.prog) (Value.int .i64) 0 36 3 .i64 Tryd.underlying36 hi016 hsz16 A0 c0 l0 (ji12) (oA) (oA) HC0.out
   have HR155 := aM (Kd.C_of_reads (h1 := fun _ => rfl) (hA16 _ (Kd.reads_of_C HR0.out)))
   have HC155 := Aside0.mk hC16
   clear hA16 hC16 hi016 hsz16
   go_wp2_with (first | ((with_reducible refine gate_callee (f := 70) rfl ?_);refine goesL_ (some 28) rfl rfl Tryd.func70 (by kernel_rfl) rfl #[.slice A16 (l0.drop ((ji12) : Int).toNat).length (c0 - (ji12).toNat), .int .i64 (wrap64 (a1 - 1))] rfl (by (try simp only [List.map_toArray, List.map_cons, List.map_nil]);first | done | (rw [show (l0.drop ((ji12) : Int).toNat).length = (l0.length - (ji12).toNat) from List.length_drop] <;> rfl) | (simp only [hji12];rfl) | rfl | (simp only [List.length_drop, List.length_take];rfl)) ?_;(with_reducible refine (ih k1 (by have := HK1.out;omega) _ _ (l0.drop ((ji12) : Int).toNat) (wrap64 (a1 - 1)) t156 _ ?side1 ?side2 A15.out).mono ?_);(case side1 => exact cP (Kd.C_below HR155.out HB.out));(case side2 => exact HC155.out);rintro e w17 ⟨v157, rfl, ho0, hb⟩;refine ⟨_, rfl, ?_⟩;have n0_ := aM (Kd.N_elder' (by exact uP HO_5.out) (Kd.N_base ho0) hb);have n1_ := aM (Kd.N_lower (Kd.N_mono (ok' := fun k_ => (w.heap.size ≤ k_) ∧ some k_ ≠ (u5 : Value).ownBlock) ho0 (fun k_ hk_ => ⟨(Nat.le_trans (below_size (by exact bB)) hk_), (Kd.fresh' (Kd.N_lt (by exact uP HO_5.out)) k_ hk_)⟩)) (below_size (by exact bB)));have n2_ := aM (below_step (by exact bB) hb);clear HO_5;clear HB;have HO_5 := n0_;have HO158 := n1_;have HB := n2_;clear n0_ n1_ n2_;(try clear hb);(try clear ho0)))
   go_loopg [5, 8] k1 (fun kq v5 v8 w' => ∃ (x5_2 : List (List Int)) (x8_2 : Int), v8 = .int .i64 x8_2 ∧ Aside0 (spec_l8Choices.l1 kq l0 a1 x5_2 x6_1 t156 x8_2 = some r) ∧ Aside0 (kq ≤ k1) ∧ Aside0 (Kd.N (Kd.slice 3 (Kd.int .i64)) 36 w' w.heap.size (fun k_ => (w.heap.size ≤ k_) ∧ some k_ ≠ (v157 : Value).ownBlock) v5 x5_2) ∧ Aside0 (Kd.N (Kd.slice 3 (Kd.int .i64)) 36 w' w.heap.size (fun k_ => (w.heap.size ≤ k_) ∧ some k_ ≠ (v5 : Value).ownBlock) v157 t156) ∧ Aside0 (Below w.heap.size w w'))
   case atStart => exact ⟨(x5_1), (0), eF, H', ⟨Nat.le_refl _⟩, ⟨by (with_reducible repeat (first | apply Kd.N_alloc | apply Kd.N_drewN | apply Kd.N_drew));exact HO_5.out⟩, ⟨by (with_reducible repeat (first | apply Kd.N_alloc | apply Kd.N_drewN | apply Kd.N_drew));exact HO158.out⟩, ⟨by exact bB⟩⟩
   case round =>
    clear H'
    try clear c1
    try clear p2
    try clear c3
    try clear c3b0
    try clear c3b1
    try clear p6
    try clear c7
    try clear c11
    try clear c11b0
    try clear c13
    try clear c13b0
    try clear c13b1
    try clear c14
    try clear c14b0
    try clear c14b1
    try clear p2
    obtain ⟨x5_2, x8_2, rfl, HA, HK2, HO_5, HO_7, HB⟩ := hrel
    cases gk with
    | zero => exact absurd HA.out (by simp [spec_l8Choices.l1])
    | succ k2 =>
     have H := HA.out
     clear HA
     simp only [spec_l8Choices.l1] at H
     by_cases c18 : x8_2 < (t156.length : Int)
     rotate_left
     ·rw [if_neg c18] at H
      have c18b0 : decide (x8_2 < (t156.length : Int)) = false := decide_eq_false c18
      clear c18
      have H' := Aside0.mk H
      clear H
      obtain ⟨Ao31, co31, eo31⟩ := Kd.N_slice HO_7.out
      subst eo31
      go_wp2
      go_roundg k2
      case measure => have := HK1.out;have := HK2.out;omega
      case rel => exact ⟨(x5_2), (wrap64 (x6_1 + 1)), eF, H', ⟨by have := HK1.out;have := HK2.out;omega⟩, ⟨by (with_reducible repeat (first | apply Kd.N_alloc | apply Kd.N_drewN | apply Kd.N_drew));exact Kd.N_mono HO_5.out (fun _ hk => hk.1)⟩, ⟨by exact bB⟩⟩
     rw [if_pos c18] at H
     have c18b0 : decide (x8_2 < (t156.length : Int)) = true := decide_eq_true c18
     clear c18
     by_cases c19 : 0 ≤ x6_1
     rotate_left
     ·rw [if_neg c19] at H
      exact absurd H (by simp)
     rw [if_pos c19] at H
     have c19b0 : decide (0 ≤ x6_1) = true := decide_eq_true c19
     clear c19
     by_cases c20 : x6_1 < (l0.length : Int)
     rotate_left
     ·rw [if_neg c20] at H
      exact absurd H (by simp)
     rw [if_pos c20] at H
     have c20b0 : decide (x6_1 < (l0.length : Int)) = true := decide_eq_true c20
     clear c20
     obtain ⟨y160, hy160⟩ : ∃ y_ : List Int, y_ = (([rd l0 x6_1] : List Int)) := ⟨_, rfl⟩
     replace H : (if 0 ≤ x8_2 then (if y160.length + (rd_L2 t156 x8_2).length < 17592186044416 then (if x5_2.length < 5864062014805 then (spec_l8Choices.l1 k2 l0 a1 (x5_2 ++ [(y160 ++ (rd_L2 t156 x8_2))]) x6_1 t156 (wrap64 (x8_2 + 1))) else (none)) else (none)) else (none)) = some r := by first | (rw [hy160];with_reducible exact H) | (have H2_ := (Option.bind_some _ _).symm.trans H;rw [hy160];with_reducible exact H2_) | (have H2_ := (Option.bind_some _ _).symm.trans H;with_reducible exact H2_) | with_reducible exact H | (rw [hy160];exact H) | exact H
     have Ny160 := Aside0.mk hy160
     clear hy160
     by_cases c21 : 0 ≤ x8_2
     rotate_left
     ·rw [if_neg c21] at H
      exact absurd H (by simp)
     rw [if_pos c21] at H
     have c21b0 : decide (0 ≤ x8_2) = true := decide_eq_true c21
     clear c21
     by_cases c22 : y160.length + (rd_L2 t156 x8_2).length < 17592186044416
     rotate_left
     ·rw [if_neg c22] at H
      exact absurd H (by simp)
     rw [if_pos c22] at H
     have LMc22 := Aside0.mk c22
     clear c22
     obtain ⟨y164, hy164⟩ : ∃ y_ : List Int, y_ = (y160 ++ (rd_L2 t156 x8_2)) := ⟨_, rfl⟩
     replace H : (if x5_2.length < 5864062014805 then (spec_l8Choices.l1 k2 l0 a1 (x5_2 ++ [y164]) x6_1 t156 (wrap64 (x8_2 + 1))) else (none)) = some r := by first | (rw [hy164];with_reducible exact H) | (have H2_ := (Option.bind_some _ _).symm.trans H;rw [hy164];with_reducible exact H2_) | (have H2_ := (Option.bind_some _ _).symm.trans H;with_reducible exact H2_) | with_reducible exact H | (rw [hy164];exact H) | exact H
     have Ny164 := Aside0.mk hy164
     clear hy164
     by_cases c23 : x5_2.length < 5864062014805
     rotate_left
     ·rw [if_neg c23] at H
      exact absurd H (by simp)
     rw [if_pos c23] at H
     have LMc23 := Aside0.mk c23
     clear c23
     obtain ⟨y167, hy167⟩ : ∃ y_ : List (List Int), y_ = (x5_2 ++ [y164]) := ⟨_, rfl⟩
     replace H : (spec_l8Choices.l1 k2 l0 a1 y167 x6_1 t156 (wrap64 (x8_2 + 1))) = some r := by first | (rw [hy167];with_reducible exact H) | (have H2_ := (Option.bind_some _ _).symm.trans H;rw [hy167];with_reducible exact H2_) | (have H2_ := (Option.bind_some _ _).symm.trans H;with_reducible exact H2_) | with_reducible exact H | (rw [hy167];exact H) | exact H
     have Ny167 := Aside0.mk hy167
     clear hy167
     have H' := Aside0.mk H
     clear H
     obtain ⟨Ao24, co24, eo24⟩ := Kd.N_slice HO_7.out
     subst eo24
     try go_wp2
     have n0_ := aM (Kd.N_drew HO_5.out)
     have n1_ := aM (Kd.N_drew HO_7.out)
     have n2_ := aM (below_drew1 HB.out)
     clear HO_5
     clear HO_7
     clear HB
     have HO_5 := n0_
     have HO_7 := n1_
     have HB := n2_
     clear n0_ n1_ n2_
     have p159 : 0 ≤ (x6_1 : Int) := oA
     have q159 : x6_1 < (l0.length : Int) := oA
     obtain ⟨ad159, e159, hx159_0⟩ := Kd.at_int HR0.out x6_1 p159 q159
     have hw159_0 := hx159_0
     cases e159
     replace hx159_0 := (HB.out.cell (World.block_lt_of_cell? w _ hx159_0)).trans hx159_0
     replace p159 := eq_true p159
     replace q159 := eq_true q159
     have p163 : 0 ≤ (x8_2 : Int) := oA
     have q163 : x8_2 < (t156.length : Int) := oA
     obtain ⟨ad163, A163_0, c163_0, e163, hx163_0, hl163_0, hi163_0⟩ := at_L2 (Kd.N_reads' HO_7.out).2.2 x8_2 p163 q163
     cases e163
     obtain ⟨ce163, hce163, hMe163, hcc163⟩ := Kd.N_get HO_7.out [] x8_2 p163 (by first | exact q163 | exact oA | (have e_ := (Kd.N_reads' HO_7.out).1;omega))
     obtain ⟨ua163_0, uc163_0, rfl, ul163_0, ge163_0⟩ := Kd.FK_slice_open hMe163
     have hv163_0 := hcc163 0 _ rfl
     rw [Nat.add_zero, show ((Kd.slice 3 (Kd.int .i64))).sz = 1 from rfl, Nat.mul_one] at hv163_0
     replace hv163_0 := Option.some.inj (hv163_0.symm.trans hx163_0)
     injection hv163_0 with hva_ hvn_ hvc_
     rw [hva_] at ge163_0
     rw [hvc_] at ul163_0
     have HL163_0 := aM (show Kd.V (Kd.int .i64) 3 _ w.heap.size _ _ (rd_L2 t156 x8_2) from Kd.V_mk ul163_0 ge163_0)
     clear hva_ hvn_ hvc_ ge163_0 ul163_0
     clear hcc163 hce163
     have HR163_0 := Aside0.mk hi163_0
     have HC163_0 := Aside0.mk hl163_0
     clear hi163_0 hl163_0
     replace p163 := eq_true p163
     replace q163 := eq_true q163
     refine start_ (n := 14) (S := fun w' => w'.cell? (ad159.add (x6_1).toNat) = some (.int .i64 (rd l0 x6_1)) ∧ w'.cell? (ad163.add (x8_2).toNat) = some (.slice A163_0 (rd_L2 t156 x8_2).length c163_0)) (ds := [10, 11, 12]) (pT 0 14) (by kernel_rfl) rfl rfl ⟨((HB.out.cell (World.block_lt_of_cell? w _ hw159_0)).trans hw159_0), hx163_0⟩ (fun hHeld => ?_);refine with_tabW spec_l8Choices.tab11 spec_l8Choices.bits11 (fun HT_ HW_ => ?_)
     generalize wr.drew = w25 at HO_5 HO_7 HB HL163_0 HR163_0 hx159_0 hx163_0 hHeld ⊢
     refine pure_ (i := 0) (N := some 35) (v := ?_) (a' := ?_) (pT 1 13) rfl rfl (any_of HT_.out (by kernel_rfl)) (fun _ _ _ h => h) (Or.inl ⟨by rfl, ?_⟩) ?_ ?_
     rotate_left
     ·intro w'
      go_simp
      with_reducible rfl
     rotate_left
     ·exact aP
     refine pure_ (i := 1) (N := some 36) (v := ?_) (a' := ?_) (pT 2 12) rfl rfl (any_of HT_.out (by kernel_rfl)) (fun _ _ _ h => h) (Or.inl ⟨by rfl, ?_⟩) ?_ ?_
     rotate_left
     ·intro w'
      go_simp
      with_reducible rfl
     rotate_left
     ·exact aP
     refine pure_ (i := 2) (N := some 37) (v := ?_) (a' := ?_) (pT 3 11) rfl rfl (any_of HT_.out (by kernel_rfl)) (fun _ _ _ h => h) (Or.inl ⟨by rfl, ?_⟩) ?_ ?_
     rotate_left
     ·intro w'
      go_simp
      with_reducible rfl
     rotate_left
     ·exact aP
     refine pure_ (i := 3) (N := some 38) (v := ?_) (a' := ?_) (pT 4 10) rfl rfl (any_of HT_.out (by kernel_rfl)) (fun _ _ _ h => h) (Or.inl ⟨by rfl, ?_⟩) ?_ ?_
     rotate_left
     ·intro w'
      go_simp
      with_reducible rfl
     rotate_left
     ·exact aP
     refine pure_ (i := 6) (N := some 41) (v := ?_) (a' := ?_) #[true,true,true,true,false,false,true,false,false,false,false,false,false,false] rfl rfl (any_of HT_.out (by kernel_rfl)) (fun _ _ _ h => h) (Or.inl ⟨by rfl, ?_⟩) ?_ ?_
     rotate_left
     ·intro w'
      go_simp
      with_reducible rfl
     rotate_left
     ·exact aP
     refine pure_ (i := 7) (N := some 42) (v := ?_) (a' := ?_) #[true,true,true,true,false,false,true,true,false,false,false,false,false,false] rfl rfl (any_of HT_.out (by kernel_rfl)) (fun _ _ _ h => h) (Or.inl ⟨by rfl, ?_⟩) ?_ ?_
     rotate_left
     ·intro w'
      go_simp
      with_reducible rfl
     rotate_left
     ·exact aP
     refine pure_ (i := 8) (N := some 43) (v := ?_) (a' := ?_) #[true,true,true,true,false,false,true,true,true,false,false,false,false,false] rfl rfl (any_of HT_.out (by kernel_rfl)) (fun _ _ _ h => h) (Or.inl ⟨by rfl, ?_⟩) ?_ ?_
     rotate_left
     ·intro w'
      go_simp
      with_reducible rfl
     rotate_left
     ·exact aP
     refine take_ (i := 4) (N := some 39) (v := ?_) (a' := ?_) #[true,true,true,true,true,false,true,true,true,false,false,false,false,false] rfl rfl (take_ofW HT_.out HW_.out (by kernel_rfl)) (fun _ _ _ h => h) (Or.inl ⟨by rfl, ?_⟩) hHeld ?_ ?_
     rotate_left
     ·rintro w' ⟨s0, s1⟩
      go_simp
      with_reducible rfl
     rotate_left
     ·exact aP
     refine take_ (i := 9) (N := some 44) (v := ?_) (a' := ?_) #[true,true,true,true,true,false,true,true,true,true,false,false,false,false] rfl rfl (take_ofW HT_.out HW_.out (by kernel_rfl)) (fun _ _ _ h => h) (Or.inl ⟨by rfl, ?_⟩) hHeld ?_ ?_
     rotate_left
     ·rintro w' ⟨s0, s1⟩
      go_simp
      with_reducible rfl
     rotate_left
     ·exact aP
     refine one_ (i := 5) (N := some 40) (pT 10 4) rfl rfl (one_of HT_.out (by kernel_rfl)) (by decide) (fun K hK => ?_)
     refine Kd.R_lit_step (Kd.int .i64) _ 3 ?hg (N := 40) ?hd (xs := ([rd l0 x6_1] : List Int)) (inner := [.int .i64 (rd l0 x6_1)]) (ok := fun _ => True) (okp := fun _ => True) ?hr ?hp (fun _ hk => hk) trivial (Below.refl _ _) (Nat.le_refl _) (by simp) ?_;(case hd => rfl);(case hg => rfl);(case hr => exact gS);(case hp => exact (Reps.one (show Kd.M (Kd.int .i64) _ _ _ (rd l0 x6_1) [.int .i64 (rd l0 x6_1)] from rfl) (Reps.none _ _)))
     intro v161 w26 ho27 hb hg_ hnew_
     have HS1_ := (hb.cell (World.block_lt_of_cell? _ _ (hHeld.2))).trans (hHeld.2)
     clear hg_ hnew_
     (first | rw [← Ny160.out] at ho27 | (simp only [Int.reduceToNat] at ho27;rw [← Ny160.out] at ho27))
     have n0_ := aM (Kd.N_elder' (by exact uP HO_5.out) (Kd.R_base ho27) hb)
     have n1_ := aM (Kd.N_elder' (by exact uP HO_7.out) (Kd.R_base ho27) hb)
     have n2_ := aM (Kd.V_elder' (by (with_reducible repeat (first | apply Kd.V_alloc | apply Kd.V_drewN | apply Kd.V_drew));exact HL163_0.out) (Kd.R_base ho27) hb)
     have n3_ := aM (Kd.R_lower (Kd.R_newM (M := fun k_ => (w.heap.size ≤ k_)) ho27 (below_size (by exact bB)) (fun k_ h_ => h_)) (below_size (by exact bB)))
     have n4_ := aM (Kd.C_below (by repeat (first | (with_reducible exact HR163_0.out) | (with_reducible refine Kd.C_alloc ?_ _) | (with_reducible refine Kd.C_drewN ?_ _) | (with_reducible refine Kd.C_drew ?_) | exact HR163_0.out)) hb)
     have n5_ := aM (below_step (by exact bB) hb)
     clear HO_5
     clear HO_7
     clear HL163_0
     clear HR163_0
     clear HB
     have HO_5 := n0_
     have HO_7 := n1_
     have HL163_0 := n2_
     have HO162 := n3_
     have HR163_0 := n4_
     have HB := n5_
     clear n0_ n1_ n2_ n3_ n4_ n5_
     clear hb ho27
     refine hK.out _ _ ⟨((HB.out.cell (World.block_lt_of_cell? w _ hw159_0)).trans hw159_0), HS1_⟩ (fun hHeld => ?_)
     clear hK K
     refine norm_ (a' := ?_) ?_ ?_
     rotate_left
     ·show Act.put _ (some 40) _ = _
      simp only [Act.put, List.setIfInBounds_toArray, List.set_cons_zero, List.set_cons_succ, i64_w, i32_w]
      rfl
     refine last_ (i := 10) (N := some 45) (pT 11 3) rfl rfl (one_of HT_.out (by kernel_rfl)) (by decide) (fun K hK => ?_)
     refine Kd.R_append_rows_step (Kd.int .i64) (w0 := w) w.heap.size (by rfl) (.tmp 40) (.tmp 44) 36 3 (.int .i64 0) 8 rfl Tryd.underlying36 info3 rfl (by decide) (by omega) v161 y160 (rd_L2 t156 x8_2) _ _ _ (fun k_ => (w.heap.size ≤ k_)) (fun _ => False) rfl rfl ?aO ?aR (fun _ _ h => h) (fun _ h => h.elim) ?aF ?aB ?aS ?aL ?_
     (case aR => exact cP (by repeat (first | (with_reducible exact HR163_0.out) | (with_reducible refine Kd.C_alloc ?_ _) | (with_reducible refine Kd.C_drewN ?_ _) | (with_reducible refine Kd.C_drew ?_) | exact HR163_0.out)))
     (case aB => exact (by exact bB))
     (case aF => exact (fun k_ hk => (Nat.le_trans (below_size (by exact bB)) hk)))
     (case aO => exact (by refine rP ?_;exact Kd.R_mono HO162.out (fun _ hk => hk.1)))
     (case aS => exact (below_size (by exact bB)))
     (case aL => have := LMc22.out;omega)
     intro v165 w28 ho hb hg hat
     rw [← Ny164.out] at ho
     have n0_ := aM (Kd.N_afterv (ok := (fun k_ => (w.heap.size ≤ k_) ∧ some k_ ≠ (.slice (some ad163) t156.length co24 : Value).ownBlock)) (by exact uP HO_5.out) hg hat)
     have n1_ := aM (Kd.N_afterv (ok := (fun k_ => (w.heap.size ≤ k_) ∧ some k_ ≠ (u5 : Value).ownBlock)) (by exact uP HO_7.out) hg hat)
     have n2_ := aM (Kd.V_afterv (ok := (fun k_ => (w.heap.size ≤ k_) ∧ some k_ ≠ (u5 : Value).ownBlock ∧ some k_ ≠ (.slice (some ad163) t156.length co24 : Value).ownBlock)) (by (with_reducible repeat (first | apply Kd.V_alloc | apply Kd.V_drewN | apply Kd.V_drew));exact Kd.V_mono HL163_0.out (fun _ hk => ⟨⟨hk.1.1.1, ⟨hk.1.1.2, hk.1.2⟩⟩, hk.2⟩)) hg hat)
     have n3_ := aM (hb)
     have n4_ := aM (ho)
     clear HO_5
     clear HO_7
     clear HL163_0
     clear HB
     clear HO162
     have HO_5 := n0_
     have HO_7 := n1_
     have HL163_0 := n2_
     have HB := n3_
     have HO166 := n4_
     clear n0_ n1_ n2_ n3_ n4_
     clear ho hb hg hat
     obtain ⟨Ao30, co30, eo30⟩ := Kd.R_slice HO166.out
     (first | subst eo30 | (injection eo30 with f1_ f2_ f3_;have f4_ := f1_.symm;have f5_ := f3_.symm;clear f1_ f2_ f3_;subst f4_;subst f5_))
     refine hK.out _ _ ?_
     clear hK K
     refine norm_ (a' := ?_) ?_ ?_
     rotate_left
     ·show Act.put _ (some 45) _ = _
      simp only [Act.put, List.setIfInBounds_toArray, List.set_cons_zero, List.set_cons_succ, i64_w, i32_w]
      rfl
     refine last_ (i := 11) (N := some 46) (pT 12 2) rfl rfl (one_of HT_.out (by kernel_rfl)) (by decide) (fun K hK => ?_)
     refine value_ (w1 := ?_) (v := ?_) (by rfl) rfl ?_ ?_
     rotate_left 2
     ·go_simp
      constructor
      ·rfl
      ·rfl
     refine hK.out _ _ ?_
     clear hK K
     refine norm_ (a' := ?_) ?_ ?_
     rotate_left
     ·show Act.put _ (some 46) _ = _
      simp only [Act.put, List.setIfInBounds_toArray, List.set_cons_zero, List.set_cons_succ, i64_w, i32_w]
      rfl
     refine last_ (i := 12) (N := some 47) (pT 13 1) rfl rfl (one_of HT_.out (by kernel_rfl)) (by decide) (fun K hK => ?_)
     refine Kd.N_append_step (Kd.slice 3 (Kd.int .i64)) (w0 := w) w.heap.size (by rfl) (.tmp 35) (.tmp 46) 26 36 (.slice none 0 0) 24 rfl Tryd.underlying26 info36 rfl (by decide) (by omega) u5 x5_2 y164 [.slice Ao30 y164.length co30] (fun k_ => (w.heap.size ≤ k_) ∧ some k_ ≠ (.slice (some ad163) t156.length co24 : Value).ownBlock) (fun k_ => ((fun k_ => (w.heap.size ≤ k_) ∧ some k_ ≠ (.slice (some ad163) t156.length co24 : Value).ownBlock)) k_ ∧ some k_ ≠ (u5 : Value).ownBlock) rfl rfl ?aP (fun _ hk => hk) ?aF ?aO ?aB ?aS ?aL ?_
     (case aP => exact (Kd.FK_slice_mk (Kd.R_reads' (Kd.R_mono (ok' := (fun k_ => ((fun k_ => (w.heap.size ≤ k_) ∧ some k_ ≠ (.slice (some ad163) t156.length co24 : Value).ownBlock)) k_ ∧ some k_ ≠ (u5 : Value).ownBlock)) (Kd.R_apart' (Kd.R_apart' (HO166.out) (Kd.N_typed HO_7.out) (by decide)) (Kd.N_typed HO_5.out) (by decide)) (fun k_ hk => ⟨⟨hk.1.1, hk.1.2⟩, hk.2⟩))).2.1 (Kd.R_F (Kd.R_mono (ok' := (fun k_ => ((fun k_ => (w.heap.size ≤ k_) ∧ some k_ ≠ (.slice (some ad163) t156.length co24 : Value).ownBlock)) k_ ∧ some k_ ≠ (u5 : Value).ownBlock)) (Kd.R_apart' (Kd.R_apart' (HO166.out) (Kd.N_typed HO_7.out) (by decide)) (Kd.N_typed HO_5.out) (by decide)) (fun k_ hk => ⟨⟨hk.1.1, hk.1.2⟩, hk.2⟩)))))
     (case aB => exact (by exact bB))
     (case aF => exact (fun k_ hk => ⟨(Nat.le_trans (below_size (by exact bB)) hk), Kd.fresh' (Kd.N_lt (by exact uP HO_7.out)) k_ hk⟩))
     (case aO => exact (by (with_reducible repeat (first | apply Kd.N_alloc | apply Kd.N_drewN | apply Kd.N_drew));exact Kd.N_mono HO_5.out (fun _ hk => ⟨hk.1.1, hk.1.2⟩)))
     (case aS => exact (below_size (by exact bB)))
     (case aL => have := LMc23.out;omega)
     intro v168 w29 ho hb hg hat
     rw [← Ny167.out] at ho
     have n0_ := aM (Kd.N_afterv (ok := (fun k_ => (w.heap.size ≤ k_) ∧ some k_ ≠ (.slice Ao30 y164.length co30 : Value).ownBlock)) (by (with_reducible repeat (first | apply Kd.N_alloc | apply Kd.N_drewN | apply Kd.N_drew));exact Kd.N_mono HO_7.out (fun _ hk => ⟨⟨hk.1.1, hk.2⟩, hk.1.2⟩)) hg hat)
     have n1_ := aM (Kd.V_afterv (ok := (fun k_ => (w.heap.size ≤ k_) ∧ some k_ ≠ (.slice (some ad163) t156.length co24 : Value).ownBlock ∧ some k_ ≠ (.slice Ao30 y164.length co30 : Value).ownBlock)) (by (with_reducible repeat (first | apply Kd.V_alloc | apply Kd.V_drewN | apply Kd.V_drew));exact Kd.V_mono HL163_0.out (fun _ hk => ⟨⟨hk.1.1, ⟨hk.1.2.2, hk.2⟩⟩, hk.1.2.1⟩)) hg hat)
     have n2_ := aM (hb)
     have n3_ := aM (ho)
     clear HO_7
     clear HL163_0
     clear HB
     clear HO_5
     clear HO166
     have HO_7 := n0_
     have HL163_0 := n1_
     have HB := n2_
     have HO169 := n3_
     clear n0_ n1_ n2_ n3_
     clear ho hb hg hat
     refine hK.out _ _ ?_
     clear hK K
     refine norm_ (a' := ?_) ?_ ?_
     rotate_left
     ·show Act.put _ (some 47) _ = _
      simp only [Act.put, List.setIfInBounds_toArray, List.set_cons_zero, List.set_cons_succ, i64_w, i32_w]
      rfl
     refine pure_ (i := 13) (N := some 5) (v := ?_) (a' := ?_) (pT 14 0) rfl rfl (any_of HT_.out (by kernel_rfl)) (fun _ _ _ h => h) (Or.inl ⟨by rfl, ?_⟩) ?_ ?_
     rotate_left
     ·intro w'
      go_simp
      with_reducible rfl
     rotate_left
     ·exact aP
     refine done_ (done_of HT_.out (by kernel_rfl)) ?_
     try go_wp2
     go_roundg k2
     case measure => have := HK1.out;have := HK2.out;omega
     case rel => exact ⟨(y167), (wrap64 (x8_2 + 1)), eF, H', ⟨by have := HK1.out;have := HK2.out;omega⟩, ⟨by (with_reducible repeat (first | apply Kd.N_alloc | apply Kd.N_drewN | apply Kd.N_drew));exact HO169.out⟩, ⟨by (with_reducible repeat (first | apply Kd.N_alloc | apply Kd.N_drewN | apply Kd.N_drew));exact Kd.N_mono HO_7.out (fun _ hk => ⟨hk.1.1, hk.2⟩)⟩, ⟨by exact bB⟩⟩


/-! ### spec_l2Bits: function 90 -/
def spec_l2Bits.l0 : Nat → Int → Int → List Int → Int → Option (List Int)
 | 0, _, _, _, _ => none
 | k + 1, x0, x1, x5, x6 => if x6 < x0 then (if 0 ≤ x6 then (if (Go.bits .and .i64 (shr .i64 x1 x6) 1) = 1 then (if x5.length < 17592186044416 then (spec_l2Bits.l0 k x0 x1 (x5 ++ [x6]) (wrap64 (x6 + 1))) else (none)) else (spec_l2Bits.l0 k x0 x1 x5 (wrap64 (x6 + 1)))) else (none)) else (some x5)
def spec_l2Bits.f (k : Nat) (a0 : Int) (a1 : Int) : Option (List Int) := spec_l2Bits.l0 k a0 a1 (([] : List Int)) 0
theorem spec_l2Bits.mono_l : ∀ k, (∀ y0 y1 y2 y3, LeO (spec_l2Bits.l0 k y0 y1 y2 y3) (spec_l2Bits.l0 (k + 1) y0 y1 y2 y3))
 | 0 => fun _ _ _ _ r h => by simp [spec_l2Bits.l0] at h
 | k + 1 => by
  have ih0 := spec_l2Bits.mono_l k
  ·intro y0 y1 y2 y3
   unfold spec_l2Bits.l0
   repeat' first
   | (with_reducible exact ih0 _ _ _ _)
   | (with_reducible exact LeO.refl _)
   | (with_reducible exact LeO.none _)
   | (with_reducible refine LeO.ite ?_ ?_)
   | (with_reducible refine LeO.bind ?_ (fun _ => ?_))
   | exact LeO.none _
   | refine LeO.ite ?_ ?_
   | refine LeO.bind ?_ (fun _ => ?_)
theorem spec_l2Bits.mono : ∀ a0 a1 k, LeO (spec_l2Bits.f k a0 a1) (spec_l2Bits.f (k + 1) a0 a1) := by
 intro a0 a1 k
 have ih0 := spec_l2Bits.mono_l k
 unfold spec_l2Bits.f
 repeat' first
   | (with_reducible exact ih0 _ _ _ _)
   | (with_reducible exact LeO.refl _)
   | (with_reducible exact LeO.none _)
   | (with_reducible refine LeO.ite ?_ ?_)
   | (with_reducible refine LeO.bind ?_ (fun _ => ?_))
   | exact LeO.none _
   | refine LeO.ite ?_ ?_
   | refine LeO.bind ?_ (fun _ => ?_)
theorem spec_l2Bits.calls (k : Nat) (a0 : Int) (a1 : Int) (r : List Int) (w : World) (h : spec_l2Bits.f k a0 a1 = some r) :
  Calls Tryd.prog 90 #[.int .i64 a0, .int .i64 a1] w fun e w' => ∃ v0_ : Value, e = .returned (v0_) ∧ Kd.R (Kd.int .i64) 3 w' w.heap.size (fun _ => True) v0_ r ∧ Below w.heap.size w w' := by
 have HB := aM (Below.refl w.heap.size w)
 have H : (spec_l2Bits.l0 k a0 a1 (([] : List Int)) 0) = some r := h
 clear h
 obtain ⟨y170, hy170⟩ : ∃ y_ : List Int, y_ = (([] : List Int)) := ⟨_, rfl⟩
 replace H : (spec_l2Bits.l0 k a0 a1 y170 0) = some r := by first | (rw [hy170];with_reducible exact H) | (have H2_ := (Option.bind_some _ _).symm.trans H;rw [hy170];with_reducible exact H2_) | (have H2_ := (Option.bind_some _ _).symm.trans H;with_reducible exact H2_) | with_reducible exact H | (rw [hy170];exact H) | exact H
 have Ny170 := Aside0.mk hy170
 clear hy170
 have H' := Aside0.mk H
 clear H
 go_enter Tryd.func90, Tryd.ntmps90
 go_wp2_with (first | ((with_reducible refine gate_dst (N := 7) rfl ?_);refine Kd.R_lit (Kd.int .i64) _ 3 ?hg (N := 7) ?hd (xs := ([] : List Int)) (inner := []) (ok := fun _ => True) (okp := fun _ => True) ?hr ?hp (fun _ hk => hk) trivial (Below.refl _ _) (Nat.le_refl _) (by simp) ?_;(case hd => rfl);(case hg => rfl);(case hr => exact gS);(case hp => exact (Reps.none _ _));intro v171 w3 ho4 hb hg_ hnew_;clear hg_ hnew_;(first | rw [← Ny170.out] at ho4 | (simp only [Int.reduceToNat] at ho4;rw [← Ny170.out] at ho4));have n0_ := aM (Kd.R_lower ho4 (below_size (by exact bB)));have n1_ := aM (below_step (by exact bB) hb);clear HB;have HO172 := n0_;have HB := n1_;clear n0_ n1_;clear hb ho4))
 go_loopg [5, 6] k (fun kq v5 v6 w' => ∃ (x5_1 : List Int) (x6_1 : Int), v6 = .int .i64 x6_1 ∧ Aside0 (spec_l2Bits.l0 kq a0 a1 x5_1 x6_1 = some r) ∧ Aside0 (kq ≤ k) ∧ Aside0 (Kd.R (Kd.int .i64) 3 w' w.heap.size (fun _ => True) v5 x5_1) ∧ Aside0 (Below w.heap.size w w'))
 case atStart => exact ⟨(y170), (0), eF, H', ⟨Nat.le_refl _⟩, ⟨by exact rP HO172.out⟩, ⟨by exact bB⟩⟩
 case round =>
  clear H'
  try clear p2
  obtain ⟨x5_1, x6_1, rfl, HA, HK1, HO_5, HB⟩ := hrel
  cases gk with
  | zero => exact absurd HA.out (by simp [spec_l2Bits.l0])
  | succ k1 =>
   have H := HA.out
   clear HA
   simp only [spec_l2Bits.l0] at H
   by_cases c5 : x6_1 < a0
   rotate_left
   ·rw [if_neg c5] at H
    have c5b0 : decide (x6_1 < a0) = false := decide_eq_false c5
    clear c5
    obtain rfl := Option.some.inj H
    go_wp2
    go_ret
    exact ⟨_, eW, by exact rP HO_5.out, by exact bB⟩
   rw [if_pos c5] at H
   have c5b0 : decide (x6_1 < a0) = true := decide_eq_true c5
   clear c5
   by_cases c6 : 0 ≤ x6_1
   rotate_left
   ·rw [if_neg c6] at H
    exact absurd H (by simp)
   rw [if_pos c6] at H
   have c6b0 := eq_true c6
   have c6b1 : decide (0 ≤ x6_1) = true := decide_eq_true c6
   clear c6
   obtain ⟨ji7, hji7⟩ : ∃ j_ : Int, (shr .i64 a1 x6_1) = j_ := ⟨_, rfl⟩
   replace H : (if (Go.bits .and .i64 (ji7) 1) = 1 then (if x5_1.length < 17592186044416 then (spec_l2Bits.l0 k1 a0 a1 (x5_1 ++ [x6_1]) (wrap64 (x6_1 + 1))) else (none)) else (spec_l2Bits.l0 k1 a0 a1 x5_1 (wrap64 (x6_1 + 1)))) = some r := by first | (rw [hji7] at H;exact H) | (simp only [hji7] at H ⊢;exact H)
   have hji7_ : (a1 / 2 ^ min x6_1.toNat 64) = ji7 := hji7
   have hji7z : x6_1 ≤ 64 → (a1 / 2 ^ x6_1.toNat) = ji7 := shr_small hji7
   by_cases c8 : (Go.bits .and .i64 (ji7) 1) = 1
   rotate_left
   ·rw [if_neg c8] at H
    have c8b0 : ((Go.bits .and .i64 (ji7) 1) == 1) = false := beq_eq_false_iff_ne.mpr c8
    have c8b1 : ((Go.bits .and .i64 (ji7) 1) != 1) = true := bne_iff_ne.mpr c8
    have H' := Aside0.mk H
    clear H
    go_wp2
    go_roundg k1
    case measure => have := HK1.out;omega
    case rel => exact ⟨(x5_1), (wrap64 (x6_1 + 1)), eF, H', ⟨by have := HK1.out;omega⟩, ⟨by exact rP HO_5.out⟩, ⟨by exact bB⟩⟩
   rw [if_pos c8] at H
   have c8b0 : ((Go.bits .and .i64 (ji7) 1) == 1) = true := beq_iff_eq.mpr c8
   have c8b1 : ((Go.bits .and .i64 (ji7) 1) != 1) = false := bne_eq_false_iff_eq.mpr c8
   clear c8
   by_cases c9 : x5_1.length < 17592186044416
   rotate_left
   ·rw [if_neg c9] at H
    exact absurd H (by simp)
   rw [if_pos c9] at H
   have LMc9 := Aside0.mk c9
   clear c9
   obtain ⟨y173, hy173⟩ : ∃ y_ : List Int, y_ = (x5_1 ++ [x6_1]) := ⟨_, rfl⟩
   replace H : (spec_l2Bits.l0 k1 a0 a1 y173 (wrap64 (x6_1 + 1))) = some r := by first | (rw [hy173];with_reducible exact H) | (have H2_ := (Option.bind_some _ _).symm.trans H;rw [hy173];with_reducible exact H2_) | (have H2_ := (Option.bind_some _ _).symm.trans H;with_reducible exact H2_) | with_reducible exact H | (rw [hy173];exact H) | exact H
   have Ny173 := Aside0.mk hy173
   clear hy173
   have H' := Aside0.mk H
   clear H
   go_wp2_with (first | ((with_reducible refine gate_builtin (b := .append) (xs := #[.tmp 18, .tmp 20]) rfl ?_);at_builtin;refine Kd.R_append (Kd.int .i64) (w0 := w) w.heap.size rfl (.tmp 18) (.tmp 20) 36 3 (.int .i64 0) 8 rfl Tryd.underlying36 info3 rfl (by decide) (by omega) u5 x5_1 x6_1 [.int .i64 x6_1] (fun _ => True) (fun _ => False) rfl rfl ?aP (fun _ hk => hk.elim) ?aF ?aO ?aB ?aS ?aL ?_;(case aP => exact rfl);(case aB => exact (by exact bB));(case aF => exact (fun _ _ => trivial));(case aO => exact (by exact rP HO_5.out));(case aS => exact (below_size (by exact bB)));(case aL => have := LMc9.out;omega);intro v174 w10 ho hb hg hat;rw [← Ny173.out] at ho;have n0_ := aM (hb);have n1_ := aM (ho);clear HB;clear HO_5;have HB := n0_;have HO175 := n1_;clear n0_ n1_;clear ho hb hg hat))
   go_roundg k1
   case measure => have := HK1.out;omega
   case rel => exact ⟨(y173), (wrap64 (x6_1 + 1)), eF, H', ⟨by have := HK1.out;omega⟩, ⟨by exact rP HO175.out⟩, ⟨by exact bB⟩⟩


/-! ### spec_l2All: function 71 -/
def spec_l2All.f (k : Nat) (a0_0 : Int) (l0_1 : List (S78)) : Option (List Int) := if 0 ≤ a0_0 then ((spec_l2Bits.f k a0_0 (wrap64 ((shl .i64 1 a0_0) - 1))).bind fun t177 => (some t177)) else (none)
theorem spec_l2All.mono : ∀ a0 a1 k, LeO (spec_l2All.f k a0 a1) (spec_l2All.f (k + 1) a0 a1) := by
 intro a0 a1 k
 unfold spec_l2All.f
 repeat' first
   | (with_reducible exact spec_l2Bits.mono _ _ _)
   | (with_reducible exact LeO.refl _)
   | (with_reducible exact LeO.none _)
   | (with_reducible refine LeO.ite ?_ ?_)
   | (with_reducible refine LeO.bind ?_ (fun _ => ?_))
   | exact LeO.none _
   | refine LeO.ite ?_ ?_
   | refine LeO.bind ?_ (fun _ => ?_)
def spec_l2All.T1 : Bool × List (List Nat × List Nat) := (true, [([], []), ([0], [0]), ([], []), ([2], [2]), ([3], [3]), ([4], [4]), ([1, 5], [1, 5]), ([6, 6, 0, 1, 2, 3, 4, 5, 6], [6])])
def spec_l2All.B1 : List Nat := [0, 1, 0, 4, 12, 28, 63, 127]
theorem spec_l2All.tab1 : rtab .any (opsOf Tryd.f71 1) = spec_l2All.T1 := by kernel_rfl
theorem spec_l2All.bits1 : waitsOk spec_l2All.T1.2 spec_l2All.B1 = true := by kernel_rfl
theorem spec_l2All.calls (k : Nat) (a0_0 : Int) (A0_1 : Option Addr) (c0_1 : Nat) (l0_1 : List (S78)) (r : List Int) (w : World) (hr0_1 : Kd.C k78 w A0_1 l0_1.length l0_1) (hc0_1 : l0_1.length ≤ c0_1) (h : spec_l2All.f k a0_0 l0_1 = some r) :
  Calls Tryd.prog 71 #[.agg #[.int .i64 a0_0, .slice A0_1 l0_1.length c0_1]] w fun e w' => ∃ v0_ : Value, e = .returned (v0_) ∧ Kd.R (Kd.int .i64) 3 w' w.heap.size (fun _ => True) v0_ r ∧ Below w.heap.size w w' := by
 have hu29 := Tryd.underlying29
 have HR0_1 := Aside0.mk hr0_1
 have HC0_1 := Aside0.mk hc0_1
 clear hr0_1 hc0_1
 have HB := aM (Below.refl w.heap.size w)
 have H : (if 0 ≤ a0_0 then ((spec_l2Bits.f k a0_0 (wrap64 ((shl .i64 1 a0_0) - 1))).bind fun t177 => (some t177)) else (none)) = some r := h
 clear h
 by_cases c2 : 0 ≤ a0_0
 rotate_left
 ·rw [if_neg c2] at H
  exact absurd H (by simp)
 rw [if_pos c2] at H
 have c2b0 := eq_true c2
 have c2b1 : decide (0 ≤ a0_0) = true := decide_eq_true c2
 clear c2
 obtain ⟨ji3, hji3⟩ : ∃ j_ : Int, (shl .i64 1 a0_0) = j_ := ⟨_, rfl⟩
 replace H : ((spec_l2Bits.f k a0_0 (wrap64 ((ji3) - 1))).bind fun t177 => (some t177)) = some r := by first | (rw [hji3] at H;exact H) | (simp only [hji3] at H ⊢;exact H)
 have hji3_ : (IntKind.i64.wrap (1 * 2 ^ min a0_0.toNat 64)) = ji3 := hji3
 have hji3z : a0_0 ≤ 64 → (IntKind.i64.wrap (1 * 2 ^ a0_0.toNat)) = ji3 := shl_small hji3
 have hji3u : (IntKind.i64.wrap (2 ^ min a0_0.toNat 64)) = ji3 := by have h_ := hji3_;rw [Int.one_mul] at h_;exact h_
 have hji3v : a0_0 ≤ 64 → (IntKind.i64.wrap (2 ^ a0_0.toNat)) = ji3 := fun hle_ => by have h_ := hji3z hle_;rw [Int.one_mul] at h_;exact h_
 have hji3y : (wrap64 (1 * 2 ^ min a0_0.toNat 64)) = ji3 := (i64_w _).symm.trans hji3_
 have hji3x : a0_0 ≤ 64 → (wrap64 (1 * 2 ^ a0_0.toNat)) = ji3 := fun h_ => (i64_w _).symm.trans (hji3z h_)
 replace H := Option.bind_eq_some_iff.mp H
 obtain ⟨t177, A40, H⟩ := H
 replace H : (some t177) = some r := H
 have A4 := Aside0.mk A40
 clear A40
 obtain rfl := Option.some.inj H
 go_enter Tryd.func71, Tryd.ntmps71
 try go_wp2_with (first | ((with_reducible refine gate_dst (N := 1) rfl ?_);refine box_event ?hg (N := 1) ?hd (cs := #[.int .i64 a0_0, .slice A0_1 l0_1.length c0_1]) (t := 29) ?hr ?_;(case hd => rfl);(case hg => rfl);(case hr => exact gS);intro gb176 hg w5 hbox hb;have n0_ := aM (below_step (by exact bB) hb);have n1_ := aM (hbox);have n2_ := aM (sW hg : w.heap.size ≤ gb176);have n3_ := aM (sW hg : w.heap.size ≤ gb176);clear HB;have HB := n0_;have BK176 := n1_;have GW176 := n2_;have GE176 := n3_;clear n0_ n1_ n2_ n3_;clear hb hbox hg))
 have n0_ := aM (blk_drew BK176.out)
 have n1_ := aM (below_drew1 HB.out)
 clear BK176
 clear HB
 have BK176 := n0_
 have HB := n1_
 clear n0_ n1_
 refine start_ (n := 8) (S := fun w' => w'.cell? ⟨gb176, 0, none⟩ = some (.int .i64 a0_0) ∧ w'.cell? ⟨gb176, 1, none⟩ = some (.slice A0_1 l0_1.length c0_1)) (ds := []) (pT 0 8) (by kernel_rfl) rfl rfl ⟨(blk_cell BK176.out 0).trans rfl, (blk_cell BK176.out 1).trans rfl⟩ (fun hHeld => ?_);refine with_tabW spec_l2All.tab1 spec_l2All.bits1 (fun HT_ HW_ => ?_)
 generalize w5.drew = w6 at BK176 HB hHeld ⊢
 refine pure_ (i := 0) (N := some 3) (v := ?_) (a' := ?_) (pT 1 7) rfl rfl (any_of HT_.out (by kernel_rfl)) (fun _ _ _ h => h) (Or.inl ⟨by rfl, ?_⟩) ?_ ?_
 rotate_left
 ·intro w'
  go_simp
  with_reducible rfl
 rotate_left
 ·exact aP
 refine pure_ (i := 2) (N := some 5) (v := ?_) (a' := ?_) #[true,false,true,false,false,false,false,false] rfl rfl (any_of HT_.out (by kernel_rfl)) (fun _ _ _ h => h) (Or.inl ⟨by rfl, ?_⟩) ?_ ?_
 rotate_left
 ·intro w'
  go_simp
  with_reducible rfl
 rotate_left
 ·exact aP
 refine take_ (i := 1) (N := some 4) (v := ?_) (a' := ?_) (pT 3 5) rfl rfl (take_ofW HT_.out HW_.out (by kernel_rfl)) (fun _ _ _ h => h) (Or.inl ⟨by rfl, ?_⟩) hHeld ?_ ?_
 rotate_left
 ·rintro w' ⟨s0, s1⟩
  go_simp
  with_reducible rfl
 rotate_left
 ·exact aP
 refine take_ (i := 3) (N := some 6) (v := ?_) (a' := ?_) (pT 4 4) rfl rfl (take_ofW HT_.out HW_.out (by kernel_rfl)) (fun _ _ _ h => h) (Or.inl ⟨by rfl, ?_⟩) hHeld ?_ ?_
 rotate_left
 ·rintro w' ⟨s0, s1⟩
  go_simp
  with_reducible rfl
 rotate_left
 ·exact aP
 refine pure_ (i := 4) (N := some 7) (v := ?_) (a' := ?_) (pT 5 3) rfl rfl (any_of HT_.out (by kernel_rfl)) (fun _ _ _ h => h) (Or.inl ⟨by rfl, ?_⟩) ?_ ?_
 rotate_left
 ·intro w'
  go_simp
  with_reducible rfl
 rotate_left
 ·exact aP
 refine pure_ (i := 5) (N := some 8) (v := ?_) (a' := ?_) (pT 6 2) rfl rfl (any_of HT_.out (by kernel_rfl)) (fun _ _ _ h => h) (Or.inl ⟨by rfl, ?_⟩) ?_ ?_
 rotate_left
 ·intro w'
  go_simp
  with_reducible rfl
 rotate_left
 ·exact aP
 refine one_ (i := 6) (N := some 9) (pT 7 1) rfl rfl (one_of HT_.out (by kernel_rfl)) (by decide) (fun K hK => ?_)
 refine goes_ Tryd.func90 (by kernel_rfl) rfl #[.int .i64 a0_0, .int .i64 (wrap64 ((ji3) - 1))] (by rfl) rfl rfl (by (try simp only [List.map_toArray, List.map_cons, List.map_nil]);first | done | (simp only [hji3];rfl) | rfl | (simp only [List.length_drop, List.length_take];rfl)) ?_
 with_reducible refine (spec_l2Bits.calls k a0_0 (wrap64 ((ji3) - 1)) t177 _ A4.out).mono ?_
 rintro e w7 ⟨v178, rfl, ho0, hb⟩
 refine ⟨_, rfl, ?_⟩
 have n0_ := aM (Kd.R_lower ho0 (below_size (by exact bB)))
 have n1_ := aM (kB hb BK176.out)
 have n2_ := aM (below_step (by exact bB) hb)
 clear BK176
 clear HB
 have HO179 := n0_
 have BK176 := n1_
 have HB := n2_
 clear n0_ n1_ n2_
 (try clear hb)
 (try clear hb2)
 (try clear hk)
 (try clear hi)
 (try clear ho0)
 refine hK.out _ _ ⟨(blk_cell BK176.out 0).trans rfl, (blk_cell BK176.out 1).trans rfl⟩ (fun hHeld => ?_)
 clear hK K
 refine norm_ (a' := ?_) ?_ ?_
 rotate_left
 ·show Act.put _ (some 9) _ = _
  simp only [Act.put, List.setIfInBounds_toArray, List.set_cons_zero, List.set_cons_succ, i64_w, i32_w]
  rfl
 refine pure_ (i := 7) (N := some 2) (v := ?_) (a' := ?_) (pT 8 0) rfl rfl (any_of HT_.out (by kernel_rfl)) (fun _ _ _ h => h) (Or.inl ⟨by rfl, ?_⟩) ?_ ?_
 rotate_left
 ·intro w'
  go_simp
  with_reducible rfl
 rotate_left
 ·exact aP
 refine done_ (done_of HT_.out (by kernel_rfl)) ?_
 try go_wp2
 go_ret
 exact ⟨_, by first | rfl | (simp [errW_none, errW_some] <;> rfl) | (simp only [← hji3];first | rfl | (simp [errW_none, errW_some] <;> rfl)) | (simp [*, errW_none, errW_some] <;> rfl), by exact rP HO179.out, by exact bB⟩


/-! ### spec_l10Sets: function 39 -/
def spec_l10Sets.f (k : Nat) (a0_0 : Int) (l0_1 : List (S78)) (a1 : Int) : Option ((List (List Int))) := (spec_l2All.f k a0_0 l0_1).bind fun t181 => ((spec_l8Choices.f k t181 a1).bind fun t184 => (some t184))
theorem spec_l10Sets.mono : ∀ a0 a1 a2 k, LeO (spec_l10Sets.f k a0 a1 a2) (spec_l10Sets.f (k + 1) a0 a1 a2) := by
 intro a0 a1 a2 k
 unfold spec_l10Sets.f
 repeat' first
   | (with_reducible exact spec_l2All.mono _ _ _)
   | (with_reducible exact spec_l8Choices.mono _ _ _)
   | (with_reducible exact LeO.refl _)
   | (with_reducible exact LeO.none _)
   | (with_reducible refine LeO.ite ?_ ?_)
   | (with_reducible refine LeO.bind ?_ (fun _ => ?_))
   | exact LeO.none _
   | refine LeO.ite ?_ ?_
   | refine LeO.bind ?_ (fun _ => ?_)
theorem spec_l10Sets.calls (k : Nat) (a0_0 : Int) (A0_1 : Option Addr) (c0_1 : Nat) (l0_1 : List (S78)) (a1 : Int) (r : List (List Int)) (w : World) (hr0_1 : Kd.C k78 w A0_1 l0_1.length l0_1) (hc0_1 : l0_1.length ≤ c0_1) (h : spec_l10Sets.f k a0_0 l0_1 a1 = some r) :
  Calls Tryd.prog 39 #[.agg #[.int .i64 a0_0, .slice A0_1 l0_1.length c0_1], .int .i64 a1] w fun e w' => ∃ v0_ : Value, e = .returned (v0_) ∧ Kd.N (Kd.slice 3 (Kd.int .i64)) 36 w' w.heap.size (fun k_ => (w.heap.size ≤ k_)) v0_ r ∧ Below w.heap.size w w' := by
 have hu29 := Tryd.underlying29
 have HR0_1 := Aside0.mk hr0_1
 have HC0_1 := Aside0.mk hc0_1
 clear hr0_1 hc0_1
 have HB := aM (Below.refl w.heap.size w)
 have H : ((spec_l2All.f k a0_0 l0_1).bind fun t181 => ((spec_l8Choices.f k t181 a1).bind fun t184 => (some t184))) = some r := h
 clear h
 replace H := Option.bind_eq_some_iff.mp H
 obtain ⟨t181, A30, H⟩ := H
 replace H : ((spec_l8Choices.f k t181 a1).bind fun t184 => (some t184)) = some r := H
 have A3 := Aside0.mk A30
 clear A30
 replace H := Option.bind_eq_some_iff.mp H
 obtain ⟨t184, A40, H⟩ := H
 replace H : (some t184) = some r := H
 have A4 := Aside0.mk A40
 clear A40
 obtain rfl := Option.some.inj H
 go_enter Tryd.func39, Tryd.ntmps39
 go_wp2_with (first | ((with_reducible refine gate_dst (N := 2) rfl ?_);refine box_event ?hg (N := 2) ?hd (cs := #[.int .i64 a0_0, .slice A0_1 l0_1.length c0_1]) (t := 29) ?hr ?_;(case hd => rfl);(case hg => rfl);(case hr => exact gS);intro gb180 hg w5 hbox hb;have n0_ := aM (below_step (by exact bB) hb);have n1_ := aM (hbox);have n2_ := aM (sW hg : w.heap.size ≤ gb180);have n3_ := aM (sW hg : w.heap.size ≤ gb180);clear HB;have HB := n0_;have BK180 := n1_;have GW180 := n2_;have GE180 := n3_;clear n0_ n1_ n2_ n3_;clear hb hbox hg;have hcz6_0 := bC0 BK180.out;have hcz6_1 := bC1 BK180.out;have hfz6_0 := blk_frozen BK180.out 0;have hfz6_1 := blk_frozen BK180.out 1) | ((with_reducible refine gate_callee (f := 71) rfl ?_);refine goesL_ (some 6) rfl rfl Tryd.func71 (by kernel_rfl) rfl #[.agg #[.int .i64 a0_0, .slice A0_1 l0_1.length c0_1]] rfl mM ?_;(with_reducible refine (spec_l2All.calls k a0_0 _ _ l0_1 t181 _ ?side1 ?side2 A3.out).mono ?_);(case side1 => exact cP (Kd.C_below HR0_1.out HB.out));(case side2 => exact HC0_1.out);rintro e w7 ⟨v182, rfl, ho0, hb⟩;refine ⟨_, rfl, ?_⟩;have n0_ := aM (Kd.R_lower (Kd.R_newM (M := fun k_ => (w.heap.size ≤ k_)) ho0 (below_size (by exact bB)) (fun k_ h_ => h_)) (below_size (by exact bB)));have n1_ := aM (kB hb BK180.out);have n2_ := aM (below_step (by exact bB) hb);clear BK180;clear HB;have HO183 := n0_;have BK180 := n1_;have HB := n2_;clear n0_ n1_ n2_;(try clear hb);(try clear ho0);obtain ⟨Ao8, co8, eo8⟩ := Kd.R_slice HO183.out;subst eo8) | ((with_reducible refine gate_callee (f := 70) rfl ?_);refine goesL_ (some 8) rfl rfl Tryd.func70 (by kernel_rfl) rfl #[.slice Ao8 t181.length co8, .int .i64 a1] rfl mM ?_;(with_reducible refine (spec_l8Choices.calls k _ _ t181 a1 t184 _ ?side1 ?side2 A4.out).mono ?_);(case side1 => exact cP (Kd.R_reads' HO183.out).2.2);(case side2 => exact (Kd.R_reads' HO183.out).2.1);rintro e w9 ⟨v185, rfl, ho0, hb⟩;refine ⟨_, rfl, ?_⟩;have n0_ := aM (Kd.R_below (by exact rP HO183.out) hb);have n1_ := aM (Kd.N_lower (Kd.N_mono (ok' := fun k_ => (w.heap.size ≤ k_) ∧ some k_ ≠ (.slice Ao8 t181.length co8 : Value).ownBlock ∧ k_ ≠ gb180) ho0 (fun k_ hk_ => ⟨(Nat.le_trans (below_size (by exact bB)) hk_), (Kd.fresh' (Kd.R_lt (by exact rP HO183.out)) k_ hk_), (Kd.freshB (g := gb180) (o := .cells #[.int .i64 a0_0, .slice A0_1 l0_1.length c0_1] 29 (0, 0)) (by exact kP BK180.out) k_ hk_)⟩)) (below_size (by exact bB)));have n2_ := aM (kB hb BK180.out);have n3_ := aM (below_step (by exact bB) hb);clear HO183;clear BK180;clear HB;have HO183 := n0_;have HO186 := n1_;have BK180 := n2_;have HB := n3_;clear n0_ n1_ n2_ n3_;(try clear hb);(try clear ho0)))
 go_ret
 exact ⟨_, eW, by (with_reducible repeat (first | apply Kd.N_alloc | apply Kd.N_drewN | apply Kd.N_drew));exact Kd.N_mono HO186.out (fun _ hk => hk.1), by exact bB⟩


/-! ### spec_l1Has: function 43 -/
def spec_l1Has.l0 : Nat → List Int → Int → Int → Option (Bool)
 | 0, _, _, _ => none
 | k + 1, x0, x1, x5 => if x5 < (x0.length : Int) then (if 0 ≤ x5 then (if (rd x0 x5) = x1 then (some true) else (spec_l1Has.l0 k x0 x1 (wrap64 (x5 + 1)))) else (none)) else (some false)
def spec_l1Has.f (k : Nat) (l0 : List Int) (a1 : Int) : Option (Bool) := spec_l1Has.l0 k l0 a1 0
theorem spec_l1Has.mono_l : ∀ k, (∀ y0 y1 y2, LeO (spec_l1Has.l0 k y0 y1 y2) (spec_l1Has.l0 (k + 1) y0 y1 y2))
 | 0 => fun _ _ _ r h => by simp [spec_l1Has.l0] at h
 | k + 1 => by
  have ih0 := spec_l1Has.mono_l k
  ·intro y0 y1 y2
   unfold spec_l1Has.l0
   repeat' first
   | (with_reducible exact ih0 _ _ _)
   | (with_reducible exact LeO.refl _)
   | (with_reducible exact LeO.none _)
   | (with_reducible refine LeO.ite ?_ ?_)
   | (with_reducible refine LeO.bind ?_ (fun _ => ?_))
   | exact LeO.none _
   | refine LeO.ite ?_ ?_
   | refine LeO.bind ?_ (fun _ => ?_)
theorem spec_l1Has.mono : ∀ a0 a1 k, LeO (spec_l1Has.f k a0 a1) (spec_l1Has.f (k + 1) a0 a1) := by
 intro a0 a1 k
 have ih0 := spec_l1Has.mono_l k
 unfold spec_l1Has.f
 repeat' first
   | (with_reducible exact ih0 _ _ _)
   | (with_reducible exact LeO.refl _)
   | (with_reducible exact LeO.none _)
   | (with_reducible refine LeO.ite ?_ ?_)
   | (with_reducible refine LeO.bind ?_ (fun _ => ?_))
   | exact LeO.none _
   | refine LeO.ite ?_ ?_
   | refine LeO.bind ?_ (fun _ => ?_)
theorem spec_l1Has.calls (k : Nat) (A0 : Option Addr) (c0 : Nat) (l0 : List Int) (a1 : Int) (r : Bool) (w : World) (hr0 : Kd.C (Kd.int .i64) w A0 l0.length l0) (hc0 : l0.length ≤ c0) (h : spec_l1Has.f k l0 a1 = some r) :
  Calls Tryd.prog 43 #[.slice A0 l0.length c0, .int .i64 a1] w fun e w' => e = .returned (.bool r) ∧ Drawn0 w w' := by
 have HR0 := Aside0.mk hr0
 have HC0 := Aside0.mk hc0
 clear hr0 hc0
 have H : (spec_l1Has.l0 k l0 a1 0) = some r := h
 clear h
 have H' := Aside0.mk H
 clear H
 go_enter Tryd.func43, Tryd.ntmps43
 go_wp2
 go_loopg [5] k (fun kq v5 w' => ∃ (x5_1 : Int), v5 = .int .i64 x5_1 ∧ Aside0 (spec_l1Has.l0 kq l0 a1 x5_1 = some r) ∧ Aside0 (kq ≤ k) ∧ Drawn0 w w')
 case atStart => exact ⟨(0), eF, H', ⟨Nat.le_refl _⟩, dR⟩
 case round =>
  clear H'
  try clear p2
  obtain ⟨x5_1, rfl, HA, HK1, ⟨m1, rfl⟩⟩ := hrel
  cases gk with
  | zero => exact absurd HA.out (by simp [spec_l1Has.l0])
  | succ k1 =>
   have H := HA.out
   clear HA
   simp only [spec_l1Has.l0] at H
   by_cases c3 : x5_1 < (l0.length : Int)
   rotate_left
   ·rw [if_neg c3] at H
    have c3b0 : decide (x5_1 < (l0.length : Int)) = false := decide_eq_false c3
    clear c3
    obtain rfl := Option.some.inj H
    go_wp2
    go_ret
    exact ⟨eF, dR⟩
   rw [if_pos c3] at H
   have c3b0 : decide (x5_1 < (l0.length : Int)) = true := decide_eq_true c3
   clear c3
   by_cases c4 : 0 ≤ x5_1
   rotate_left
   ·rw [if_neg c4] at H
    exact absurd H (by simp)
   rw [if_pos c4] at H
   have c4b0 : decide (0 ≤ x5_1) = true := decide_eq_true c4
   clear c4
   by_cases c5 : (rd l0 x5_1) = a1
   ·rw [if_pos c5] at H
    have c5b0 : ((rd l0 x5_1) == a1) = true := beq_iff_eq.mpr c5
    have c5b1 : ((rd l0 x5_1) != a1) = false := bne_eq_false_iff_eq.mpr c5
    clear c5
    obtain rfl := Option.some.inj H
    have p187 : 0 ≤ (x5_1 : Int) := oA
    have q187 : x5_1 < (l0.length : Int) := oA
    obtain ⟨ad187, e187, hx187_0⟩ := Kd.at_int HR0.out x5_1 p187 q187
    cases e187
    replace p187 := eq_true p187
    replace q187 := eq_true q187
    go_wp2
    go_ret
    exact ⟨eF, dR⟩
   rw [if_neg c5] at H
   have c5b0 : ((rd l0 x5_1) == a1) = false := beq_eq_false_iff_ne.mpr c5
   have c5b1 : ((rd l0 x5_1) != a1) = true := bne_iff_ne.mpr c5
   have H' := Aside0.mk H
   clear H
   have p187 : 0 ≤ (x5_1 : Int) := oA
   have q187 : x5_1 < (l0.length : Int) := oA
   obtain ⟨ad187, e187, hx187_0⟩ := Kd.at_int HR0.out x5_1 p187 q187
   cases e187
   replace p187 := eq_true p187
   replace q187 := eq_true q187
   go_wp2
   go_roundg k1
   case measure => have := HK1.out;omega
   case rel => exact ⟨(wrap64 (x5_1 + 1)), eF, H', ⟨by have := HK1.out;omega⟩, dR⟩


/-! ### spec_l1Own: function 52 -/
def spec_l1Own.f (l0 : List Int) : Option (List Int) := (some (([] : List Int) : List Int)).bind fun y188 => (if y188.length + l0.length < 17592186044416 then (some (y188 ++ l0)) else (none))
theorem spec_l1Own.calls (A0 : Option Addr) (c0 : Nat) (l0 : List Int) (r : List Int) (w : World) (hr0 : Kd.C (Kd.int .i64) w A0 l0.length l0) (hc0 : l0.length ≤ c0) (h : spec_l1Own.f l0 = some r) :
  Calls Tryd.prog 52 #[.slice A0 l0.length c0] w fun e w' => ∃ v0_ : Value, e = .returned (v0_) ∧ Kd.R (Kd.int .i64) 3 w' w.heap.size (fun _ => True) v0_ r ∧ Below w.heap.size w w' := by
 have HR0 := Aside0.mk hr0
 have HC0 := Aside0.mk hc0
 clear hr0 hc0
 have HB := aM (Below.refl w.heap.size w)
 have H : ((some (([] : List Int) : List Int)).bind fun y188 => (if y188.length + l0.length < 17592186044416 then (some (y188 ++ l0)) else (none))) = some r := h
 clear h
 obtain ⟨y188, hy188⟩ : ∃ y_ : List Int, y_ = (([] : List Int)) := ⟨_, rfl⟩
 replace H : (if y188.length + l0.length < 17592186044416 then (some (y188 ++ l0)) else (none)) = some r := by first | (rw [hy188];with_reducible exact H) | (have H2_ := (Option.bind_some _ _).symm.trans H;rw [hy188];with_reducible exact H2_) | (have H2_ := (Option.bind_some _ _).symm.trans H;with_reducible exact H2_) | with_reducible exact H | (rw [hy188];exact H) | exact H
 have Ny188 := Aside0.mk hy188
 clear hy188
 by_cases c2 : y188.length + l0.length < 17592186044416
 rotate_left
 ·rw [if_neg c2] at H
  exact absurd H (by simp)
 rw [if_pos c2] at H
 have LMc2 := Aside0.mk c2
 clear c2
 obtain ⟨y191, hy191⟩ : ∃ y_ : List Int, y_ = (y188 ++ l0) := ⟨_, rfl⟩
 replace H : (some y191) = some r := by first | (rw [hy191];with_reducible exact H) | (have H2_ := (Option.bind_some _ _).symm.trans H;rw [hy191];with_reducible exact H2_) | (have H2_ := (Option.bind_some _ _).symm.trans H;with_reducible exact H2_) | with_reducible exact H | (rw [hy191];exact H) | exact H
 have Ny191 := Aside0.mk hy191
 clear hy191
 obtain rfl := Option.some.inj H
 go_enter Tryd.func52, Tryd.ntmps52
 go_wp2_with (first | ((with_reducible refine gate_dst (N := 3) rfl ?_);refine Kd.R_lit (Kd.int .i64) _ 3 ?hg (N := 3) ?hd (xs := ([] : List Int)) (inner := []) (ok := fun _ => True) (okp := fun _ => True) ?hr ?hp (fun _ hk => hk) trivial (Below.refl _ _) (Nat.le_refl _) (by simp) ?_;(case hd => rfl);(case hg => rfl);(case hr => exact gS);(case hp => exact (Reps.none _ _));intro v189 w3 ho4 hb hg_ hnew_;clear hg_ hnew_;(first | rw [← Ny188.out] at ho4 | (simp only [Int.reduceToNat] at ho4;rw [← Ny188.out] at ho4));have n0_ := aM (Kd.R_lower ho4 (below_size (by exact bB)));have n1_ := aM (below_step (by exact bB) hb);clear HB;have HO190 := n0_;have HB := n1_;clear n0_ n1_;clear hb ho4) | ((with_reducible refine gate_builtin (b := .append) (xs := #[.tmp 3, .tmp 4]) rfl ?_);at_builtin;refine Kd.R_append_rows (Kd.int .i64) (w0 := w) w.heap.size rfl (.tmp 3) (.tmp 4) 36 3 (.int .i64 0) 8 rfl Tryd.underlying36 info3 rfl (by decide) (by omega) v189 y188 l0 _ _ _ (fun _ => True) (fun _ => False) rfl rfl ?aO ?aR (fun _ _ h => h) (fun _ h => h.elim) ?aF ?aB ?aS ?aL ?_;(case aR => exact cP (Kd.C_below HR0.out HB.out));(case aB => exact (by exact bB));(case aF => exact (fun _ _ => trivial));(case aO => exact (by exact rP HO190.out));(case aS => exact (below_size (by exact bB)));(case aL => have := LMc2.out;omega);intro v192 w5 ho hb hg hat;rw [← Ny191.out] at ho;have n0_ := aM (hb);have n1_ := aM (ho);clear HB;clear HO190;have HB := n0_;have HO193 := n1_;clear n0_ n1_;clear ho hb hg hat))
 go_ret
 exact ⟨_, eW, by exact rP HO193.out, by exact bB⟩


/-! ### spec_l2Near: function 103 -/
def spec_l2Near.l0 : Nat → Int → Int → Int → Int → List (S78) → Option (Bool)
 | 0, _, _, _, _, _ => none
 | k + 1, x1, x2, x7, x195000, x195001 => if x7 < (x195001.length : Int) then (if 0 ≤ x7 then (if ((rd_T78 x195001 x7).f0) = x1 then (if ((rd_T78 x195001 x7).f1) = x2 then (some true) else (if ((rd_T78 x195001 x7).f0) = x2 then (if ((rd_T78 x195001 x7).f1) = x1 then (some true) else (spec_l2Near.l0 k x1 x2 (wrap64 (x7 + 1)) x195000 x195001)) else (spec_l2Near.l0 k x1 x2 (wrap64 (x7 + 1)) x195000 x195001))) else (if ((rd_T78 x195001 x7).f0) = x2 then (if ((rd_T78 x195001 x7).f1) = x1 then (some true) else (spec_l2Near.l0 k x1 x2 (wrap64 (x7 + 1)) x195000 x195001)) else (spec_l2Near.l0 k x1 x2 (wrap64 (x7 + 1)) x195000 x195001))) else (none)) else (some false)
def spec_l2Near.f (k : Nat) (a0_0 : Int) (l0_1 : List (S78)) (a1 : Int) (a2 : Int) : Option (Bool) := spec_l2Near.l0 k a1 a2 0 a0_0 l0_1
theorem spec_l2Near.mono_l : ∀ k, (∀ y0 y1 y2 y3 y4, LeO (spec_l2Near.l0 k y0 y1 y2 y3 y4) (spec_l2Near.l0 (k + 1) y0 y1 y2 y3 y4))
 | 0 => fun _ _ _ _ _ r h => by simp [spec_l2Near.l0] at h
 | k + 1 => by
  have ih0 := spec_l2Near.mono_l k
  ·intro y0 y1 y2 y3 y4
   unfold spec_l2Near.l0
   repeat' first
   | (with_reducible exact ih0 _ _ _ _ _)
   | (with_reducible exact LeO.refl _)
   | (with_reducible exact LeO.none _)
   | (with_reducible refine LeO.ite ?_ ?_)
   | (with_reducible refine LeO.bind ?_ (fun _ => ?_))
   | exact LeO.none _
   | refine LeO.ite ?_ ?_
   | refine LeO.bind ?_ (fun _ => ?_)
theorem spec_l2Near.mono : ∀ a0 a1 a2 a3 k, LeO (spec_l2Near.f k a0 a1 a2 a3) (spec_l2Near.f (k + 1) a0 a1 a2 a3) := by
 intro a0 a1 a2 a3 k
 have ih0 := spec_l2Near.mono_l k
 unfold spec_l2Near.f
 repeat' first
   | (with_reducible exact ih0 _ _ _ _ _)
   | (with_reducible exact LeO.refl _)
   | (with_reducible exact LeO.none _)
   | (with_reducible refine LeO.ite ?_ ?_)
   | (with_reducible refine LeO.bind ?_ (fun _ => ?_))
   | exact LeO.none _
   | refine LeO.ite ?_ ?_
   | refine LeO.bind ?_ (fun _ => ?_)
theorem spec_l2Near.calls (k : Nat) (a0_0 : Int) (A0_1 : Option Addr) (c0_1 : Nat) (l0_1 : List (S78)) (a1 : Int) (a2 : Int) (r : Bool) (w : World) (hr0_1 : Kd.C k78 w A0_1 l0_1.length l0_1) (hc0_1 : l0_1.length ≤ c0_1) (h : spec_l2Near.f k a0_0 l0_1 a1 a2 = some r) :
  Calls Tryd.prog 103 #[.agg #[.int .i64 a0_0, .slice A0_1 l0_1.length c0_1], .int .i64 a1, .int .i64 a2] w fun e w' => e = .returned (.bool r) ∧ Below w.heap.size w w' := by
 have hu29 := Tryd.underlying29
 have hu78 := Tryd.underlying78
 have HR0_1 := Aside0.mk hr0_1
 have HC0_1 := Aside0.mk hc0_1
 clear hr0_1 hc0_1
 have HB := aM (Below.refl w.heap.size w)
 have H : (spec_l2Near.l0 k a1 a2 0 a0_0 l0_1) = some r := h
 clear h
 have H' := Aside0.mk H
 clear H
 go_enter Tryd.func103, Tryd.ntmps103
 go_wp2_with (first | ((with_reducible refine gate_dst (N := 3) rfl ?_);refine box_event ?hg (N := 3) ?hd (cs := #[.int .i64 a0_0, .slice A0_1 l0_1.length c0_1]) (t := 29) ?hr ?_;(case hd => rfl);(case hg => rfl);(case hr => exact gS);intro gb194 hg w4 hbox hb;have n0_ := aM (below_step (by exact bB) hb);have n1_ := aM (hbox);have n2_ := aM (sW hg : w.heap.size ≤ gb194);have n3_ := aM (sW hg : w.heap.size ≤ gb194);clear HB;have HB := n0_;have BK194 := n1_;have GW194 := n2_;have GE194 := n3_;clear n0_ n1_ n2_ n3_;clear hb hbox hg))
 go_loopg [7] k (fun kq v7 w' => ∃ (x7_1 : Int), v7 = .int .i64 x7_1 ∧ Aside0 (spec_l2Near.l0 kq a1 a2 x7_1 a0_0 l0_1 = some r) ∧ Aside0 (kq ≤ k) ∧ Aside0 (w'.heap[gb194]? = some (.cells #[.int .i64 a0_0, (.slice A0_1 l0_1.length c0_1)] 29 (0, 0))) ∧ Aside0 (Below w.heap.size w w'))
 case atStart => exact ⟨(0), eF, H', ⟨Nat.le_refl _⟩, ⟨by exact kP BK194.out⟩, ⟨by exact bB⟩⟩
 case round =>
  clear H'
  try clear c1
  try clear p2
  obtain ⟨x7_1, rfl, HA, HK1, BK194, HB⟩ := hrel
  cases gk with
  | zero => exact absurd HA.out (by simp [spec_l2Near.l0])
  | succ k1 =>
   have H := HA.out
   clear HA
   simp only [spec_l2Near.l0] at H
   by_cases c5 : x7_1 < (l0_1.length : Int)
   rotate_left
   ·rw [if_neg c5] at H
    have c5b0 : decide (x7_1 < (l0_1.length : Int)) = false := decide_eq_false c5
    clear c5
    obtain rfl := Option.some.inj H
    have hcz41_0 := bC0 BK194.out
    have hcz41_1 := bC1 BK194.out
    have hfz41_0 := blk_frozen BK194.out 0
    have hfz41_1 := blk_frozen BK194.out 1
    go_wp2
    go_ret
    exact ⟨eW, by exact bB⟩
   rw [if_pos c5] at H
   have c5b0 : decide (x7_1 < (l0_1.length : Int)) = true := decide_eq_true c5
   clear c5
   by_cases c6 : 0 ≤ x7_1
   rotate_left
   ·rw [if_neg c6] at H
    exact absurd H (by simp)
   rw [if_pos c6] at H
   have c6b0 : decide (0 ≤ x7_1) = true := decide_eq_true c6
   clear c6
   by_cases c7 : ((rd_T78 l0_1 x7_1).f0) = a1
   rotate_left
   ·rw [if_neg c7] at H
    have c7b0 : (((rd_T78 l0_1 x7_1).f0) == a1) = false := beq_eq_false_iff_ne.mpr c7
    have c7b1 : (((rd_T78 l0_1 x7_1).f0) != a1) = true := bne_iff_ne.mpr c7
    by_cases c27 : ((rd_T78 l0_1 x7_1).f0) = a2
    rotate_left
    ·rw [if_neg c27] at H
     have c27b0 : (((rd_T78 l0_1 x7_1).f0) == a2) = false := beq_eq_false_iff_ne.mpr c27
     have c27b1 : (((rd_T78 l0_1 x7_1).f0) != a2) = true := bne_iff_ne.mpr c27
     have H' := Aside0.mk H
     clear H
     have hcz37_0 := bC0 BK194.out
     have hcz37_1 := bC1 BK194.out
     have hfz37_0 := blk_frozen BK194.out 0
     have hfz37_1 := blk_frozen BK194.out 1
     have p195 : 0 ≤ (x7_1 : Int) := oA
     have q195 : x7_1 < (l0_1.length : Int) := oA
     obtain ⟨ad195, e195, hx195_0, hx195_1⟩ := at_T78 HR0_1.out x7_1 p195 q195
     cases e195
     replace hx195_0 := (HB.out.cell (World.block_lt_of_cell? w _ hx195_0)).trans hx195_0
     replace hx195_1 := (HB.out.cell (World.block_lt_of_cell? w _ hx195_1)).trans hx195_1
     replace p195 := eq_true p195
     replace q195 := eq_true q195
     go_wp2_with (first | ((with_reducible refine gate_dst (N := 8) rfl ?_);refine box_event ?hg (N := 8) ?hd (cs := #[.int .i64 0, .int .i64 0]) (t := 78) ?hr ?_;(case hd => rfl);(case hg => rfl);(case hr => exact gS);intro gb196 hg w38 hbox hb;have n0_ := aM (kB hb BK194.out);have n1_ := aM (below_step (by exact bB) hb);have n2_ := aM (hbox);have n3_ := aM (sW hg : w.heap.size ≤ gb196);have n4_ := aM (sW hg : w.heap.size ≤ gb196);have n5_ := aM (nL hg (kP BK194.out));have n6_ := aM (nG hg (kP BK194.out));clear BK194;clear HB;have BK194 := n0_;have HB := n1_;have BK196 := n2_;have GW196 := n3_;have GE196 := n4_;have NB194_196 := n5_;have NB196_194 := n6_;clear n0_ n1_ n2_ n3_ n4_ n5_ n6_;clear hb hbox hg;have hnb39 := NB196_194.out;have hnc39 := NB194_196.out;have hcz40_0 := bC0 BK196.out;have hcz40_1 := bC1 BK196.out;have hfz40_0 := blk_frozen BK196.out 0;have hfz40_1 := blk_frozen BK196.out 1))
     go_roundg k1
     case measure => have := HK1.out;omega
     case rel => exact ⟨(wrap64 (x7_1 + 1)), eF, H', ⟨by have := HK1.out;omega⟩, ⟨by refine kP ?_;refine blk_far ?_ NB194_196.out _;refine kP ?_;refine blk_far ?_ NB194_196.out _;exact kP BK194.out⟩, ⟨by exact bB⟩⟩
    rw [if_pos c27] at H
    have c27b0 : (((rd_T78 l0_1 x7_1).f0) == a2) = true := beq_iff_eq.mpr c27
    have c27b1 : (((rd_T78 l0_1 x7_1).f0) != a2) = false := bne_eq_false_iff_eq.mpr c27
    clear c27
    by_cases c28 : ((rd_T78 l0_1 x7_1).f1) = a1
    ·rw [if_pos c28] at H
     have c28b0 : (((rd_T78 l0_1 x7_1).f1) == a1) = true := beq_iff_eq.mpr c28
     have c28b1 : (((rd_T78 l0_1 x7_1).f1) != a1) = false := bne_eq_false_iff_eq.mpr c28
     clear c28
     obtain rfl := Option.some.inj H
     have hcz29_0 := bC0 BK194.out
     have hcz29_1 := bC1 BK194.out
     have hfz29_0 := blk_frozen BK194.out 0
     have hfz29_1 := blk_frozen BK194.out 1
     have p195 : 0 ≤ (x7_1 : Int) := oA
     have q195 : x7_1 < (l0_1.length : Int) := oA
     obtain ⟨ad195, e195, hx195_0, hx195_1⟩ := at_T78 HR0_1.out x7_1 p195 q195
     cases e195
     replace hx195_0 := (HB.out.cell (World.block_lt_of_cell? w _ hx195_0)).trans hx195_0
     replace hx195_1 := (HB.out.cell (World.block_lt_of_cell? w _ hx195_1)).trans hx195_1
     replace p195 := eq_true p195
     replace q195 := eq_true q195
     go_wp2_with (first | ((with_reducible refine gate_dst (N := 8) rfl ?_);refine box_event ?hg (N := 8) ?hd (cs := #[.int .i64 0, .int .i64 0]) (t := 78) ?hr ?_;(case hd => rfl);(case hg => rfl);(case hr => exact gS);intro gb196 hg w30 hbox hb;have n0_ := aM (kB hb BK194.out);have n1_ := aM (below_step (by exact bB) hb);have n2_ := aM (hbox);have n3_ := aM (sW hg : w.heap.size ≤ gb196);have n4_ := aM (sW hg : w.heap.size ≤ gb196);have n5_ := aM (nL hg (kP BK194.out));have n6_ := aM (nG hg (kP BK194.out));clear BK194;clear HB;have BK194 := n0_;have HB := n1_;have BK196 := n2_;have GW196 := n3_;have GE196 := n4_;have NB194_196 := n5_;have NB196_194 := n6_;clear n0_ n1_ n2_ n3_ n4_ n5_ n6_;clear hb hbox hg;have hnb31 := NB196_194.out;have hnc31 := NB194_196.out;have hcz32_0 := bC0 BK196.out;have hcz32_1 := bC1 BK196.out;have hfz32_0 := blk_frozen BK196.out 0;have hfz32_1 := blk_frozen BK196.out 1))
     go_ret
     exact ⟨eW, by exact bB⟩
    rw [if_neg c28] at H
    have c28b0 : (((rd_T78 l0_1 x7_1).f1) == a1) = false := beq_eq_false_iff_ne.mpr c28
    have c28b1 : (((rd_T78 l0_1 x7_1).f1) != a1) = true := bne_iff_ne.mpr c28
    have H' := Aside0.mk H
    clear H
    have hcz33_0 := bC0 BK194.out
    have hcz33_1 := bC1 BK194.out
    have hfz33_0 := blk_frozen BK194.out 0
    have hfz33_1 := blk_frozen BK194.out 1
    have p195 : 0 ≤ (x7_1 : Int) := oA
    have q195 : x7_1 < (l0_1.length : Int) := oA
    obtain ⟨ad195, e195, hx195_0, hx195_1⟩ := at_T78 HR0_1.out x7_1 p195 q195
    cases e195
    replace hx195_0 := (HB.out.cell (World.block_lt_of_cell? w _ hx195_0)).trans hx195_0
    replace hx195_1 := (HB.out.cell (World.block_lt_of_cell? w _ hx195_1)).trans hx195_1
    replace p195 := eq_true p195
    replace q195 := eq_true q195
    go_wp2_with (first | ((with_reducible refine gate_dst (N := 8) rfl ?_);refine box_event ?hg (N := 8) ?hd (cs := #[.int .i64 0, .int .i64 0]) (t := 78) ?hr ?_;(case hd => rfl);(case hg => rfl);(case hr => exact gS);intro gb196 hg w34 hbox hb;have n0_ := aM (kB hb BK194.out);have n1_ := aM (below_step (by exact bB) hb);have n2_ := aM (hbox);have n3_ := aM (sW hg : w.heap.size ≤ gb196);have n4_ := aM (sW hg : w.heap.size ≤ gb196);have n5_ := aM (nL hg (kP BK194.out));have n6_ := aM (nG hg (kP BK194.out));clear BK194;clear HB;have BK194 := n0_;have HB := n1_;have BK196 := n2_;have GW196 := n3_;have GE196 := n4_;have NB194_196 := n5_;have NB196_194 := n6_;clear n0_ n1_ n2_ n3_ n4_ n5_ n6_;clear hb hbox hg;have hnb35 := NB196_194.out;have hnc35 := NB194_196.out;have hcz36_0 := bC0 BK196.out;have hcz36_1 := bC1 BK196.out;have hfz36_0 := blk_frozen BK196.out 0;have hfz36_1 := blk_frozen BK196.out 1))
    go_roundg k1
    case measure => have := HK1.out;omega
    case rel => exact ⟨(wrap64 (x7_1 + 1)), eF, H', ⟨by have := HK1.out;omega⟩, ⟨by refine kP ?_;refine blk_far ?_ NB194_196.out _;refine kP ?_;refine blk_far ?_ NB194_196.out _;exact kP BK194.out⟩, ⟨by exact bB⟩⟩
   rw [if_pos c7] at H
   have c7b0 : (((rd_T78 l0_1 x7_1).f0) == a1) = true := beq_iff_eq.mpr c7
   have c7b1 : (((rd_T78 l0_1 x7_1).f0) != a1) = false := bne_eq_false_iff_eq.mpr c7
   clear c7
   by_cases c8 : ((rd_T78 l0_1 x7_1).f1) = a2
   ·rw [if_pos c8] at H
    have c8b0 : (((rd_T78 l0_1 x7_1).f1) == a2) = true := beq_iff_eq.mpr c8
    have c8b1 : (((rd_T78 l0_1 x7_1).f1) != a2) = false := bne_eq_false_iff_eq.mpr c8
    clear c8
    obtain rfl := Option.some.inj H
    have hcz9_0 := bC0 BK194.out
    have hcz9_1 := bC1 BK194.out
    have hfz9_0 := blk_frozen BK194.out 0
    have hfz9_1 := blk_frozen BK194.out 1
    have p195 : 0 ≤ (x7_1 : Int) := oA
    have q195 : x7_1 < (l0_1.length : Int) := oA
    obtain ⟨ad195, e195, hx195_0, hx195_1⟩ := at_T78 HR0_1.out x7_1 p195 q195
    cases e195
    replace hx195_0 := (HB.out.cell (World.block_lt_of_cell? w _ hx195_0)).trans hx195_0
    replace hx195_1 := (HB.out.cell (World.block_lt_of_cell? w _ hx195_1)).trans hx195_1
    replace p195 := eq_true p195
    replace q195 := eq_true q195
    go_wp2_with (first | ((with_reducible refine gate_dst (N := 8) rfl ?_);refine box_event ?hg (N := 8) ?hd (cs := #[.int .i64 0, .int .i64 0]) (t := 78) ?hr ?_;(case hd => rfl);(case hg => rfl);(case hr => exact gS);intro gb196 hg w10 hbox hb;have n0_ := aM (kB hb BK194.out);have n1_ := aM (below_step (by exact bB) hb);have n2_ := aM (hbox);have n3_ := aM (sW hg : w.heap.size ≤ gb196);have n4_ := aM (sW hg : w.heap.size ≤ gb196);have n5_ := aM (nL hg (kP BK194.out));have n6_ := aM (nG hg (kP BK194.out));clear BK194;clear HB;have BK194 := n0_;have HB := n1_;have BK196 := n2_;have GW196 := n3_;have GE196 := n4_;have NB194_196 := n5_;have NB196_194 := n6_;clear n0_ n1_ n2_ n3_ n4_ n5_ n6_;clear hb hbox hg;have hnb11 := NB196_194.out;have hnc11 := NB194_196.out;have hcz12_0 := bC0 BK196.out;have hcz12_1 := bC1 BK196.out;have hfz12_0 := blk_frozen BK196.out 0;have hfz12_1 := blk_frozen BK196.out 1))
    go_ret
    exact ⟨eW, by exact bB⟩
   rw [if_neg c8] at H
   have c8b0 : (((rd_T78 l0_1 x7_1).f1) == a2) = false := beq_eq_false_iff_ne.mpr c8
   have c8b1 : (((rd_T78 l0_1 x7_1).f1) != a2) = true := bne_iff_ne.mpr c8
   by_cases c13 : ((rd_T78 l0_1 x7_1).f0) = a2
   rotate_left
   ·rw [if_neg c13] at H
    have c13b0 : (((rd_T78 l0_1 x7_1).f0) == a2) = false := beq_eq_false_iff_ne.mpr c13
    have c13b1 : (((rd_T78 l0_1 x7_1).f0) != a2) = true := bne_iff_ne.mpr c13
    have H' := Aside0.mk H
    clear H
    have hcz23_0 := bC0 BK194.out
    have hcz23_1 := bC1 BK194.out
    have hfz23_0 := blk_frozen BK194.out 0
    have hfz23_1 := blk_frozen BK194.out 1
    have p195 : 0 ≤ (x7_1 : Int) := oA
    have q195 : x7_1 < (l0_1.length : Int) := oA
    obtain ⟨ad195, e195, hx195_0, hx195_1⟩ := at_T78 HR0_1.out x7_1 p195 q195
    cases e195
    replace hx195_0 := (HB.out.cell (World.block_lt_of_cell? w _ hx195_0)).trans hx195_0
    replace hx195_1 := (HB.out.cell (World.block_lt_of_cell? w _ hx195_1)).trans hx195_1
    replace p195 := eq_true p195
    replace q195 := eq_true q195
    go_wp2_with (first | ((with_reducible refine gate_dst (N := 8) rfl ?_);refine box_event ?hg (N := 8) ?hd (cs := #[.int .i64 0, .int .i64 0]) (t := 78) ?hr ?_;(case hd => rfl);(case hg => rfl);(case hr => exact gS);intro gb196 hg w24 hbox hb;have n0_ := aM (kB hb BK194.out);have n1_ := aM (below_step (by exact bB) hb);have n2_ := aM (hbox);have n3_ := aM (sW hg : w.heap.size ≤ gb196);have n4_ := aM (sW hg : w.heap.size ≤ gb196);have n5_ := aM (nL hg (kP BK194.out));have n6_ := aM (nG hg (kP BK194.out));clear BK194;clear HB;have BK194 := n0_;have HB := n1_;have BK196 := n2_;have GW196 := n3_;have GE196 := n4_;have NB194_196 := n5_;have NB196_194 := n6_;clear n0_ n1_ n2_ n3_ n4_ n5_ n6_;clear hb hbox hg;have hnb25 := NB196_194.out;have hnc25 := NB194_196.out;have hcz26_0 := bC0 BK196.out;have hcz26_1 := bC1 BK196.out;have hfz26_0 := blk_frozen BK196.out 0;have hfz26_1 := blk_frozen BK196.out 1))
    go_roundg k1
    case measure => have := HK1.out;omega
    case rel => exact ⟨(wrap64 (x7_1 + 1)), eF, H', ⟨by have := HK1.out;omega⟩, ⟨by refine kP ?_;refine blk_far ?_ NB194_196.out _;refine kP ?_;refine blk_far ?_ NB194_196.out _;exact kP BK194.out⟩, ⟨by exact bB⟩⟩
   rw [if_pos c13] at H
   have c13b0 : (((rd_T78 l0_1 x7_1).f0) == a2) = true := beq_iff_eq.mpr c13
   have c13b1 : (((rd_T78 l0_1 x7_1).f0) != a2) = false := bne_eq_false_iff_eq.mpr c13
   clear c13
   by_cases c14 : ((rd_T78 l0_1 x7_1).f1) = a1
   ·rw [if_pos c14] at H
    have c14b0 : (((rd_T78 l0_1 x7_1).f1) == a1) = true := beq_iff_eq.mpr c14
    have c14b1 : (((rd_T78 l0_1 x7_1).f1) != a1) = false := bne_eq_false_iff_eq.mpr c14
    clear c14
    obtain rfl := Option.some.inj H
    have hcz15_0 := bC0 BK194.out
    have hcz15_1 := bC1 BK194.out
    have hfz15_0 := blk_frozen BK194.out 0
    have hfz15_1 := blk_frozen BK194.out 1
    have p195 : 0 ≤ (x7_1 : Int) := oA
    have q195 : x7_1 < (l0_1.length : Int) := oA
    obtain ⟨ad195, e195, hx195_0, hx195_1⟩ := at_T78 HR0_1.out x7_1 p195 q195
    cases e195
    replace hx195_0 := (HB.out.cell (World.block_lt_of_cell? w _ hx195_0)).trans hx195_0
    replace hx195_1 := (HB.out.cell (World.block_lt_of_cell? w _ hx195_1)).trans hx195_1
    replace p195 := eq_true p195
    replace q195 := eq_true q195
    go_wp2_with (first | ((with_reducible refine gate_dst (N := 8) rfl ?_);refine box_event ?hg (N := 8) ?hd (cs := #[.int .i64 0, .int .i64 0]) (t := 78) ?hr ?_;(case hd => rfl);(case hg => rfl);(case hr => exact gS);intro gb196 hg w16 hbox hb;have n0_ := aM (kB hb BK194.out);have n1_ := aM (below_step (by exact bB) hb);have n2_ := aM (hbox);have n3_ := aM (sW hg : w.heap.size ≤ gb196);have n4_ := aM (sW hg : w.heap.size ≤ gb196);have n5_ := aM (nL hg (kP BK194.out));have n6_ := aM (nG hg (kP BK194.out));clear BK194;clear HB;have BK194 := n0_;have HB := n1_;have BK196 := n2_;have GW196 := n3_;have GE196 := n4_;have NB194_196 := n5_;have NB196_194 := n6_;clear n0_ n1_ n2_ n3_ n4_ n5_ n6_;clear hb hbox hg;have hnb17 := NB196_194.out;have hnc17 := NB194_196.out;have hcz18_0 := bC0 BK196.out;have hcz18_1 := bC1 BK196.out;have hfz18_0 := blk_frozen BK196.out 0;have hfz18_1 := blk_frozen BK196.out 1))
    go_ret
    exact ⟨eW, by exact bB⟩
   rw [if_neg c14] at H
   have c14b0 : (((rd_T78 l0_1 x7_1).f1) == a1) = false := beq_eq_false_iff_ne.mpr c14
   have c14b1 : (((rd_T78 l0_1 x7_1).f1) != a1) = true := bne_iff_ne.mpr c14
   have H' := Aside0.mk H
   clear H
   have hcz19_0 := bC0 BK194.out
   have hcz19_1 := bC1 BK194.out
   have hfz19_0 := blk_frozen BK194.out 0
   have hfz19_1 := blk_frozen BK194.out 1
   have p195 : 0 ≤ (x7_1 : Int) := oA
   have q195 : x7_1 < (l0_1.length : Int) := oA
   obtain ⟨ad195, e195, hx195_0, hx195_1⟩ := at_T78 HR0_1.out x7_1 p195 q195
   cases e195
   replace hx195_0 := (HB.out.cell (World.block_lt_of_cell? w _ hx195_0)).trans hx195_0
   replace hx195_1 := (HB.out.cell (World.block_lt_of_cell? w _ hx195_1)).trans hx195_1
   replace p195 := eq_true p195
   replace q195 := eq_true q195
   go_wp2_with (first | ((with_reducible refine gate_dst (N := 8) rfl ?_);refine box_event ?hg (N := 8) ?hd (cs := #[.int .i64 0, .int .i64 0]) (t := 78) ?hr ?_;(case hd => rfl);(case hg => rfl);(case hr => exact gS);intro gb196 hg w20 hbox hb;have n0_ := aM (kB hb BK194.out);have n1_ := aM (below_step (by exact bB) hb);have n2_ := aM (hbox);have n3_ := aM (sW hg : w.heap.size ≤ gb196);have n4_ := aM (sW hg : w.heap.size ≤ gb196);have n5_ := aM (nL hg (kP BK194.out));have n6_ := aM (nG hg (kP BK194.out));clear BK194;clear HB;have BK194 := n0_;have HB := n1_;have BK196 := n2_;have GW196 := n3_;have GE196 := n4_;have NB194_196 := n5_;have NB196_194 := n6_;clear n0_ n1_ n2_ n3_ n4_ n5_ n6_;clear hb hbox hg;have hnb21 := NB196_194.out;have hnc21 := NB194_196.out;have hcz22_0 := bC0 BK196.out;have hcz22_1 := bC1 BK196.out;have hfz22_0 := blk_frozen BK196.out 0;have hfz22_1 := blk_frozen BK196.out 1))
   go_roundg k1
   case measure => have := HK1.out;omega
   case rel => exact ⟨(wrap64 (x7_1 + 1)), eF, H', ⟨by have := HK1.out;omega⟩, ⟨by refine kP ?_;refine blk_far ?_ NB194_196.out _;refine kP ?_;refine blk_far ?_ NB194_196.out _;exact kP BK194.out⟩, ⟨by exact bB⟩⟩


end Go.Proofs.YtgahlimikndecaaDoor.QBestAnswer
