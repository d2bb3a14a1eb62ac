import Derived.Test.YtgahlimikndecaaDoorQBestAnswer0
import Derived.Test.YtgahlimikndecaaDoorQBestAnswer1
import Derived.Test.YtgahlimikndecaaDoorQBestAnswer4
namespace Go.Proofs.YtgahlimikndecaaDoor.QBestAnswer
open Go.RowKit Go.Proofs.YtgahlimikndecaaDoorW.PrintWords Go.Proofs.YtgahlimikndecaaDoorW.PrintLast Go.Proofs.YtgahlimikndecaaDoorW.PrintMore
attribute [local go_sem] max2_int min2_int max_two min_two max_three min_three max_four min_four   -- for this text's walks alone
set_option linter.unusedVariables false
set_option linter.unusedSimpArgs false
set_option maxRecDepth 100000
set_option maxHeartbeats 8000000
/-! ### spec_l10Best: function 51 -/
def spec_l10Best.l0 : Nat → List Int → Int → List Int → Int → Option (Int)
 | 0, _, _, _, _ => none
 | k + 1, x1, x9, x10, x11 => if x11 < (x10.length : Int) then (if x9 < 0 then (if 0 ≤ x11 then (spec_l10Best.l0 k x1 (rd x10 x11) x10 (wrap64 (x11 + 1))) else (none)) else (if 0 ≤ x9 then (if x9 < (x1.length : Int) then (if (rd x1 x9) ≥ 0 then (if 0 ≤ x11 then (if 0 ≤ (rd x10 x11) then (if (rd x10 x11) < (x1.length : Int) then (if (rd x1 (rd x10 x11)) < 0 then (spec_l10Best.l0 k x1 (rd x10 x11) x10 (wrap64 (x11 + 1))) else (if (rd x1 (rd x10 x11)) > (rd x1 x9) then (spec_l10Best.l0 k x1 (rd x10 x11) x10 (wrap64 (x11 + 1))) else (spec_l10Best.l0 k x1 x9 x10 (wrap64 (x11 + 1))))) else (none)) else (none)) else (none)) else (spec_l10Best.l0 k x1 x9 x10 (wrap64 (x11 + 1)))) else (none)) else (none))) else (some x9)
def spec_l10Best.f (k : Nat) (l0 : List (List (List Int))) (l1 : List Int) (a2 : Int) (a3 : Int) : Option (Int) := if 0 ≤ a2 then (if a2 < (l0.length : Int) then (if 0 ≤ a3 then (if a3 < ((rd_L3 l0 a2).length : Int) then (spec_l10Best.l0 k l1 (-1) (rd_L2 (rd_L3 l0 a2) a3) 0) else (none)) else (none)) else (none)) else (none)
theorem spec_l10Best.mono_l : ∀ k, (∀ y0 y1 y2 y3, LeO (spec_l10Best.l0 k y0 y1 y2 y3) (spec_l10Best.l0 (k + 1) y0 y1 y2 y3))
 | 0 => fun _ _ _ _ r h => by simp [spec_l10Best.l0] at h
 | k + 1 => by
  have ih0 := spec_l10Best.mono_l k
  ·intro y0 y1 y2 y3
   unfold spec_l10Best.l0
   repeat' first
   | (with_reducible exact ih0 _ _ _ _)
   | (with_reducible exact LeO.refl _)
   | (with_reducible exact LeO.none _)
   | (with_reducible refine LeO.ite ?_ ?_)
   | (with_reducible refine LeO.bind ?_ (fun _ => ?_))
   | exact LeO.none _
   | refine LeO.ite ?_ ?_
   | refine LeO.bind ?_ (fun _ => ?_)
theorem spec_l10Best.mono : ∀ a0 a1 a2 a3 k, LeO (spec_l10Best.f k a0 a1 a2 a3) (spec_l10Best.f (k + 1) a0 a1 a2 a3) := by
 intro a0 a1 a2 a3 k
 have ih0 := spec_l10Best.mono_l k
 unfold spec_l10Best.f
 repeat' first
   | (with_reducible exact ih0 _ _ _ _)
   | (with_reducible exact LeO.refl _)
   | (with_reducible exact LeO.none _)
   | (with_reducible refine LeO.ite ?_ ?_)
   | (with_reducible refine LeO.bind ?_ (fun _ => ?_))
   | exact LeO.none _
   | refine LeO.ite ?_ ?_
   | refine LeO.bind ?_ (fun _ => ?_)
theorem spec_l10Best.calls (k : Nat) (A0 : Option Addr) (c0 : Nat) (l0 : List (List (List Int))) (A1 : Option Addr) (c1 : Nat) (l1 : List Int) (a2 : Int) (a3 : Int) (r : Int) (w : World) (hr0 : Kd.C (Kd.slice 36 (Kd.slice 3 (Kd.int .i64))) w A0 l0.length l0) (hc0 : l0.length ≤ c0) (hr1 : Kd.C (Kd.int .i64) w A1 l1.length l1) (hc1 : l1.length ≤ c1) (h : spec_l10Best.f k l0 l1 a2 a3 = some r) :
  Calls Tryd.prog 51 #[.slice A0 l0.length c0, .slice A1 l1.length c1, .int .i64 a2, .int .i64 a3] w fun e w' => e = .returned (.int .i64 r) ∧ Drawn0 w w' := by
 have HR0 := Aside0.mk hr0
 have HC0 := Aside0.mk hc0
 clear hr0 hc0
 have HR1 := Aside0.mk hr1
 have HC1 := Aside0.mk hc1
 clear hr1 hc1
 have H : (if 0 ≤ a2 then (if a2 < (l0.length : Int) then (if 0 ≤ a3 then (if a3 < ((rd_L3 l0 a2).length : Int) then (spec_l10Best.l0 k l1 (-1) (rd_L2 (rd_L3 l0 a2) a3) 0) else (none)) else (none)) else (none)) else (none)) = some r := h
 clear h
 by_cases c5 : 0 ≤ a2
 rotate_left
 ·rw [if_neg c5] at H
  exact absurd H (by simp)
 rw [if_pos c5] at H
 have c5b0 : decide (0 ≤ a2) = true := decide_eq_true c5
 clear c5
 by_cases c6 : a2 < (l0.length : Int)
 rotate_left
 ·rw [if_neg c6] at H
  exact absurd H (by simp)
 rw [if_pos c6] at H
 have c6b0 : decide (a2 < (l0.length : Int)) = true := decide_eq_true c6
 clear c6
 by_cases c7 : 0 ≤ a3
 rotate_left
 ·rw [if_neg c7] at H
  exact absurd H (by simp)
 rw [if_pos c7] at H
 have c7b0 : decide (0 ≤ a3) = true := decide_eq_true c7
 clear c7
 by_cases c8 : a3 < ((rd_L3 l0 a2).length : Int)
 rotate_left
 ·rw [if_neg c8] at H
  exact absurd H (by simp)
 rw [if_pos c8] at H
 have c8b0 : decide (a3 < ((rd_L3 l0 a2).length : Int)) = true := decide_eq_true c8
 clear c8
 have H' := Aside0.mk H
 clear H
 have p313 : 0 ≤ (a2 : Int) := oA
 have q313 : a2 < (l0.length : Int) := oA
 obtain ⟨ad313, A313_0, c313_0, e313, hx313_0, hl313_0, hi313_0⟩ := at_L3 HR0.out a2 p313 q313
 cases e313
 have HR313_0 := Aside0.mk hi313_0
 have HC313_0 := Aside0.mk hl313_0
 clear hi313_0 hl313_0
 replace p313 := eq_true p313
 replace q313 := eq_true q313
 have p314 : 0 ≤ (a3 : Int) := oA
 have q314 : a3 < ((rd_L3 l0 a2).length : Int) := oA
 obtain ⟨ad314, A314_0, c314_0, e314, hx314_0, hl314_0, hi314_0⟩ := at_L2 HR313_0.out a3 p314 q314
 cases e314
 have HR314_0 := Aside0.mk hi314_0
 have HC314_0 := Aside0.mk hl314_0
 clear hi314_0 hl314_0
 replace p314 := eq_true p314
 replace q314 := eq_true q314
 go_enter Tryd.func51, Tryd.ntmps51
 go_wp2
 repeat (go_quiet (fail);try go_wp2)
 go_loopg [9, 11] k (fun kq v9 v11 w' => ∃ (x9_1 : Int) (x11_1 : Int), v9 = .int .i64 x9_1 ∧ v11 = .int .i64 x11_1 ∧ Aside0 (spec_l10Best.l0 kq l1 x9_1 (rd_L2 (rd_L3 l0 a2) a3) x11_1 = some r) ∧ Aside0 (kq ≤ k) ∧ Drawn0 w w')
 case atStart => exact ⟨((-1)), (0), eF, eF, H', ⟨Nat.le_refl _⟩, dR⟩
 case round =>
  clear H'
  try clear c1
  try clear p2
  try clear c3
  try clear p3
  try clear q3
  try clear hx3
  try clear c5
  try clear c5b0
  try clear c6
  try clear c6b0
  try clear c7
  try clear c7b0
  try clear c8
  try clear c8b0
  try clear hx313_0
  try clear hx314_0
  try clear p313
  try clear p314
  try clear q313
  try clear q314
  obtain ⟨x9_1, x11_1, rfl, rfl, HA, HK1, ⟨m1, rfl⟩⟩ := hrel
  cases gk with
  | zero => exact absurd HA.out (by simp [spec_l10Best.l0])
  | succ k1 =>
   have H := HA.out
   clear HA
   simp only [spec_l10Best.l0] at H
   by_cases c9 : x11_1 < ((rd_L2 (rd_L3 l0 a2) a3).length : Int)
   rotate_left
   ·rw [if_neg c9] at H
    have c9b0 : decide (x11_1 < ((rd_L2 (rd_L3 l0 a2) a3).length : Int)) = false := decide_eq_false c9
    clear c9
    obtain rfl := Option.some.inj H
    go_wp2
    repeat (go_quiet (fail);try go_wp2)
    go_ret
    exact ⟨eF, dR⟩
   rw [if_pos c9] at H
   have c9b0 : decide (x11_1 < ((rd_L2 (rd_L3 l0 a2) a3).length : Int)) = true := decide_eq_true c9
   clear c9
   by_cases c10 : x9_1 < 0
   ·rw [if_pos c10] at H
    have c10b0 : decide (x9_1 < 0) = true := decide_eq_true c10
    clear c10
    by_cases c11 : 0 ≤ x11_1
    rotate_left
    ·rw [if_neg c11] at H
     exact absurd H (by simp)
    rw [if_pos c11] at H
    have c11b0 : decide (0 ≤ x11_1) = true := decide_eq_true c11
    clear c11
    have H' := Aside0.mk H
    clear H
    have p315 : 0 ≤ (x11_1 : Int) := oA
    have q315 : x11_1 < ((rd_L2 (rd_L3 l0 a2) a3).length : Int) := oA
    obtain ⟨ad315, e315, hx315_0⟩ := Kd.at_int HR314_0.out x11_1 p315 q315
    cases e315
    replace p315 := eq_true p315
    replace q315 := eq_true q315
    go_wp2
    repeat (go_quiet (fail);try go_wp2)
    go_roundg k1
    case measure => have := HK1.out;omega
    case rel => exact ⟨(rd (rd_L2 (rd_L3 l0 a2) a3) x11_1), (wrap64 (x11_1 + 1)), eF, eF, H', ⟨by have := HK1.out;omega⟩, dR⟩
   rw [if_neg c10] at H
   have c10b0 : decide (x9_1 < 0) = false := decide_eq_false c10
   clear c10
   by_cases c12 : 0 ≤ x9_1
   rotate_left
   ·rw [if_neg c12] at H
    exact absurd H (by simp)
   rw [if_pos c12] at H
   have c12b0 : decide (0 ≤ x9_1) = true := decide_eq_true c12
   clear c12
   by_cases c13 : x9_1 < (l1.length : Int)
   rotate_left
   ·rw [if_neg c13] at H
    exact absurd H (by simp)
   rw [if_pos c13] at H
   have c13b0 : decide (x9_1 < (l1.length : Int)) = true := decide_eq_true c13
   clear c13
   by_cases c14 : (rd l1 x9_1) ≥ 0
   rotate_left
   ·rw [if_neg c14] at H
    have c14b0 : decide (0 ≤ (rd l1 x9_1)) = false := decide_eq_false c14
    clear c14
    have H' := Aside0.mk H
    clear H
    have p316 : 0 ≤ (x9_1 : Int) := oA
    have q316 : x9_1 < (l1.length : Int) := oA
    obtain ⟨ad316, e316, hx316_0⟩ := Kd.at_int HR1.out x9_1 p316 q316
    cases e316
    replace p316 := eq_true p316
    replace q316 := eq_true q316
    go_wp2
    repeat (go_quiet (fail);try go_wp2)
    go_roundg k1
    case measure => have := HK1.out;omega
    case rel => exact ⟨(x9_1), (wrap64 (x11_1 + 1)), eF, eF, H', ⟨by have := HK1.out;omega⟩, dR⟩
   rw [if_pos c14] at H
   have c14b0 : decide (0 ≤ (rd l1 x9_1)) = true := decide_eq_true c14
   clear c14
   by_cases c15 : 0 ≤ x11_1
   rotate_left
   ·rw [if_neg c15] at H
    exact absurd H (by simp)
   rw [if_pos c15] at H
   have c15b0 : decide (0 ≤ x11_1) = true := decide_eq_true c15
   clear c15
   by_cases c16 : 0 ≤ (rd (rd_L2 (rd_L3 l0 a2) a3) x11_1)
   rotate_left
   ·rw [if_neg c16] at H
    exact absurd H (by simp)
   rw [if_pos c16] at H
   have c16b0 : decide (0 ≤ (rd (rd_L2 (rd_L3 l0 a2) a3) x11_1)) = true := decide_eq_true c16
   clear c16
   by_cases c17 : (rd (rd_L2 (rd_L3 l0 a2) a3) x11_1) < (l1.length : Int)
   rotate_left
   ·rw [if_neg c17] at H
    exact absurd H (by simp)
   rw [if_pos c17] at H
   have c17b0 : decide ((rd (rd_L2 (rd_L3 l0 a2) a3) x11_1) < (l1.length : Int)) = true := decide_eq_true c17
   clear c17
   by_cases c18 : (rd l1 (rd (rd_L2 (rd_L3 l0 a2) a3) x11_1)) < 0
   ·rw [if_pos c18] at H
    have c18b0 : decide ((rd l1 (rd (rd_L2 (rd_L3 l0 a2) a3) x11_1)) < 0) = true := decide_eq_true c18
    clear c18
    have H' := Aside0.mk H
    clear H
    have p316 : 0 ≤ (x9_1 : Int) := oA
    have q316 : x9_1 < (l1.length : Int) := oA
    obtain ⟨ad316, e316, hx316_0⟩ := Kd.at_int HR1.out x9_1 p316 q316
    cases e316
    replace p316 := eq_true p316
    replace q316 := eq_true q316
    have p317 : 0 ≤ (x11_1 : Int) := oA
    have q317 : x11_1 < ((rd_L2 (rd_L3 l0 a2) a3).length : Int) := oA
    obtain ⟨ad317, e317, hx317_0⟩ := Kd.at_int HR314_0.out x11_1 p317 q317
    cases e317
    replace p317 := eq_true p317
    replace q317 := eq_true q317
    have p318 : 0 ≤ ((rd (rd_L2 (rd_L3 l0 a2) a3) x11_1) : Int) := oA
    have q318 : (rd (rd_L2 (rd_L3 l0 a2) a3) x11_1) < (l1.length : Int) := oA
    obtain ⟨ad318, e318, hx318_0⟩ := Kd.at_int HR1.out (rd (rd_L2 (rd_L3 l0 a2) a3) x11_1) p318 q318
    obtain rfl : ad316 = ad318 := (by injection e318)
    replace p318 := eq_true p318
    replace q318 := eq_true q318
    have p319 : 0 ≤ (x11_1 : Int) := oA
    have q319 : x11_1 < ((rd_L2 (rd_L3 l0 a2) a3).length : Int) := oA
    obtain ⟨ad319, e319, hx319_0⟩ := Kd.at_int HR314_0.out x11_1 p319 q319
    obtain rfl : ad317 = ad319 := (by injection e319)
    replace p319 := eq_true p319
    replace q319 := eq_true q319
    go_wp2
    repeat (go_quiet (fail);try go_wp2)
    go_roundg k1
    case measure => have := HK1.out;omega
    case rel => exact ⟨(rd (rd_L2 (rd_L3 l0 a2) a3) x11_1), (wrap64 (x11_1 + 1)), eF, eF, H', ⟨by have := HK1.out;omega⟩, dR⟩
   rw [if_neg c18] at H
   have c18b0 : decide ((rd l1 (rd (rd_L2 (rd_L3 l0 a2) a3) x11_1)) < 0) = false := decide_eq_false c18
   clear c18
   by_cases c19 : (rd l1 (rd (rd_L2 (rd_L3 l0 a2) a3) x11_1)) > (rd l1 x9_1)
   rotate_left
   ·rw [if_neg c19] at H
    have c19b0 : decide ((rd l1 x9_1) < (rd l1 (rd (rd_L2 (rd_L3 l0 a2) a3) x11_1))) = false := decide_eq_false c19
    clear c19
    have H' := Aside0.mk H
    clear H
    have p316 : 0 ≤ (x9_1 : Int) := oA
    have q316 : x9_1 < (l1.length : Int) := oA
    obtain ⟨ad316, e316, hx316_0⟩ := Kd.at_int HR1.out x9_1 p316 q316
    cases e316
    replace p316 := eq_true p316
    replace q316 := eq_true q316
    have p317 : 0 ≤ (x11_1 : Int) := oA
    have q317 : x11_1 < ((rd_L2 (rd_L3 l0 a2) a3).length : Int) := oA
    obtain ⟨ad317, e317, hx317_0⟩ := Kd.at_int HR314_0.out x11_1 p317 q317
    cases e317
    replace p317 := eq_true p317
    replace q317 := eq_true q317
    have p318 : 0 ≤ ((rd (rd_L2 (rd_L3 l0 a2) a3) x11_1) : Int) := oA
    have q318 : (rd (rd_L2 (rd_L3 l0 a2) a3) x11_1) < (l1.length : Int) := oA
    obtain ⟨ad318, e318, hx318_0⟩ := Kd.at_int HR1.out (rd (rd_L2 (rd_L3 l0 a2) a3) x11_1) p318 q318
    obtain rfl : ad316 = ad318 := (by injection e318)
    replace p318 := eq_true p318
    replace q318 := eq_true q318
    have p320 : 0 ≤ (x11_1 : Int) := oA
    have q320 : x11_1 < ((rd_L2 (rd_L3 l0 a2) a3).length : Int) := oA
    obtain ⟨ad320, e320, hx320_0⟩ := Kd.at_int HR314_0.out x11_1 p320 q320
    obtain rfl : ad317 = ad320 := (by injection e320)
    replace p320 := eq_true p320
    replace q320 := eq_true q320
    have p321 : 0 ≤ ((rd (rd_L2 (rd_L3 l0 a2) a3) x11_1) : Int) := oA
    have q321 : (rd (rd_L2 (rd_L3 l0 a2) a3) x11_1) < (l1.length : Int) := oA
    obtain ⟨ad321, e321, hx321_0⟩ := Kd.at_int HR1.out (rd (rd_L2 (rd_L3 l0 a2) a3) x11_1) p321 q321
    obtain rfl : ad316 = ad321 := (by injection e321)
    replace p321 := eq_true p321
    replace q321 := eq_true q321
    have p322 : 0 ≤ (x9_1 : Int) := oA
    have q322 : x9_1 < (l1.length : Int) := oA
    obtain ⟨ad322, e322, hx322_0⟩ := Kd.at_int HR1.out x9_1 p322 q322
    obtain rfl : ad316 = ad322 := (by injection e322)
    replace p322 := eq_true p322
    replace q322 := eq_true q322
    go_wp2
    repeat (go_quiet (fail);try go_wp2)
    go_roundg k1
    case measure => have := HK1.out;omega
    case rel => exact ⟨(x9_1), (wrap64 (x11_1 + 1)), eF, eF, H', ⟨by have := HK1.out;omega⟩, dR⟩
   rw [if_pos c19] at H
   have c19b0 : decide ((rd l1 x9_1) < (rd l1 (rd (rd_L2 (rd_L3 l0 a2) a3) x11_1))) = true := decide_eq_true c19
   clear c19
   have H' := Aside0.mk H
   clear H
   have p316 : 0 ≤ (x9_1 : Int) := oA
   have q316 : x9_1 < (l1.length : Int) := oA
   obtain ⟨ad316, e316, hx316_0⟩ := Kd.at_int HR1.out x9_1 p316 q316
   cases e316
   replace p316 := eq_true p316
   replace q316 := eq_true q316
   have p317 : 0 ≤ (x11_1 : Int) := oA
   have q317 : x11_1 < ((rd_L2 (rd_L3 l0 a2) a3).length : Int) := oA
   obtain ⟨ad317, e317, hx317_0⟩ := Kd.at_int HR314_0.out x11_1 p317 q317
   cases e317
   replace p317 := eq_true p317
   replace q317 := eq_true q317
   have p318 : 0 ≤ ((rd (rd_L2 (rd_L3 l0 a2) a3) x11_1) : Int) := oA
   have q318 : (rd (rd_L2 (rd_L3 l0 a2) a3) x11_1) < (l1.length : Int) := oA
   obtain ⟨ad318, e318, hx318_0⟩ := Kd.at_int HR1.out (rd (rd_L2 (rd_L3 l0 a2) a3) x11_1) p318 q318
   obtain rfl : ad316 = ad318 := (by injection e318)
   replace p318 := eq_true p318
   replace q318 := eq_true q318
   have p320 : 0 ≤ (x11_1 : Int) := oA
   have q320 : x11_1 < ((rd_L2 (rd_L3 l0 a2) a3).length : Int) := oA
   obtain ⟨ad320, e320, hx320_0⟩ := Kd.at_int HR314_0.out x11_1 p320 q320
   obtain rfl : ad317 = ad320 := (by injection e320)
   replace p320 := eq_true p320
   replace q320 := eq_true q320
   have p321 : 0 ≤ ((rd (rd_L2 (rd_L3 l0 a2) a3) x11_1) : Int) := oA
   have q321 : (rd (rd_L2 (rd_L3 l0 a2) a3) x11_1) < (l1.length : Int) := oA
   obtain ⟨ad321, e321, hx321_0⟩ := Kd.at_int HR1.out (rd (rd_L2 (rd_L3 l0 a2) a3) x11_1) p321 q321
   obtain rfl : ad316 = ad321 := (by injection e321)
   replace p321 := eq_true p321
   replace q321 := eq_true q321
   have p322 : 0 ≤ (x9_1 : Int) := oA
   have q322 : x9_1 < (l1.length : Int) := oA
   obtain ⟨ad322, e322, hx322_0⟩ := Kd.at_int HR1.out x9_1 p322 q322
   obtain rfl : ad316 = ad322 := (by injection e322)
   replace p322 := eq_true p322
   replace q322 := eq_true q322
   have p323 : 0 ≤ (x11_1 : Int) := oA
   have q323 : x11_1 < ((rd_L2 (rd_L3 l0 a2) a3).length : Int) := oA
   obtain ⟨ad323, e323, hx323_0⟩ := Kd.at_int HR314_0.out x11_1 p323 q323
   obtain rfl : ad317 = ad323 := (by injection e323)
   replace p323 := eq_true p323
   replace q323 := eq_true q323
   go_wp2
   repeat (go_quiet (fail);try go_wp2)
   go_roundg k1
   case measure => have := HK1.out;omega
   case rel => exact ⟨(rd (rd_L2 (rd_L3 l0 a2) a3) x11_1), (wrap64 (x11_1 + 1)), eF, eF, H', ⟨by have := HK1.out;omega⟩, dR⟩


/-! ### spec_BestAnswer: function 20 -/
def spec_BestAnswer.j0 : Nat → List Int → Int → Bool → Bool → Int → List (S78) → Option (List Int × Bool)
 | 0, _, _, _, _, _, _ => none
 | k + 1, x1, x2, x3, x32, x325000, x325001 => if x32 = true then (some ((([] : List Int)), false)) else ((spec_l10Sets.f k x325000 x325001 (x1.length : Int)).bind fun t332 => ((spec_l10Table.f k x325000 x325001 t332 x3).bind fun t335 => ((spec_l10Resist.f k t332 t335).bind fun t338 => ((spec_l4At.f k t332 x1).bind fun t341 => ((spec_l10Best.f k t335 t338 t341 x2).bind fun t342 => (if t342 < 0 then (some ((([] : List Int)), false)) else (if 0 ≤ t342 then (if t342 < (t332.length : Int) then ((spec_l1Own.f (rd_L2 t332 t342)).bind fun t347 => (some (t347, true))) else (none)) else (none))))))))
def spec_BestAnswer.f (k : Nat) (a0_0 : Int) (l0_1 : List (S78)) (l1 : List Int) (a2 : Int) (a3 : Bool) : Option (List Int × Bool) := (spec_l2Good.f a0_0 l0_1).bind fun t325 => (if t325 = true then ((spec_l2Set.f k a0_0 l0_1 l1).bind fun t326 => (if t326 = true then ((spec_l2Node.f a0_0 l0_1 a2).bind fun t327 => (if t327 = true then ((spec_l1Has.f k l1 a2).bind fun t328 => (spec_BestAnswer.j0 k l1 a2 a3 t328 a0_0 l0_1)) else (spec_BestAnswer.j0 k l1 a2 a3 true a0_0 l0_1))) else (spec_BestAnswer.j0 k l1 a2 a3 true a0_0 l0_1))) else (spec_BestAnswer.j0 k l1 a2 a3 true a0_0 l0_1))
theorem spec_BestAnswer.mono_l : ∀ k, (∀ y0 y1 y2 y3 y4 y5, LeO (spec_BestAnswer.j0 k y0 y1 y2 y3 y4 y5) (spec_BestAnswer.j0 (k + 1) y0 y1 y2 y3 y4 y5))
 | 0 => fun _ _ _ _ _ _ r h => by simp [spec_BestAnswer.j0] at h
 | k + 1 => by
  have ih0 := spec_BestAnswer.mono_l k
  ·intro y0 y1 y2 y3 y4 y5
   unfold spec_BestAnswer.j0
   repeat' first
   | (with_reducible exact ih0 _ _ _ _ _ _)
   | (with_reducible exact spec_l10Best.mono _ _ _ _ _)
   | (with_reducible exact spec_l10Resist.mono _ _ _)
   | (with_reducible exact spec_l10Sets.mono _ _ _ _)
   | (with_reducible exact spec_l10Table.mono _ _ _ _ _)
   | (with_reducible exact spec_l1Has.mono _ _ _)
   | (with_reducible exact spec_l2Set.mono _ _ _ _)
   | (with_reducible exact spec_l4At.mono _ _ _)
   | (with_reducible exact LeO.refl _)
   | (with_reducible exact LeO.none _)
   | (with_reducible refine LeO.ite ?_ ?_)
   | (with_reducible refine LeO.bind ?_ (fun _ => ?_))
   | exact LeO.none _
   | refine LeO.ite ?_ ?_
   | refine LeO.bind ?_ (fun _ => ?_)
theorem spec_BestAnswer.mono : ∀ a0 a1 a2 a3 a4 k, LeO (spec_BestAnswer.f k a0 a1 a2 a3 a4) (spec_BestAnswer.f (k + 1) a0 a1 a2 a3 a4) := by
 intro a0 a1 a2 a3 a4 k
 have ih0 := spec_BestAnswer.mono_l k
 unfold spec_BestAnswer.f
 repeat' first
   | (with_reducible exact ih0 _ _ _ _ _ _)
   | (with_reducible exact spec_l10Best.mono _ _ _ _ _)
   | (with_reducible exact spec_l10Resist.mono _ _ _)
   | (with_reducible exact spec_l10Sets.mono _ _ _ _)
   | (with_reducible exact spec_l10Table.mono _ _ _ _ _)
   | (with_reducible exact spec_l1Has.mono _ _ _)
   | (with_reducible exact spec_l2Set.mono _ _ _ _)
   | (with_reducible exact spec_l4At.mono _ _ _)
   | (with_reducible exact LeO.refl _)
   | (with_reducible exact LeO.none _)
   | (with_reducible refine LeO.ite ?_ ?_)
   | (with_reducible refine LeO.bind ?_ (fun _ => ?_))
   | exact LeO.none _
   | refine LeO.ite ?_ ?_
   | refine LeO.bind ?_ (fun _ => ?_)
theorem spec_BestAnswer.calls (k : Nat) (a0_0 : Int) (A0_1 : Option Addr) (c0_1 : Nat) (l0_1 : List (S78)) (A1 : Option Addr) (c1 : Nat) (l1 : List Int) (a2 : Int) (a3 : Bool) (r1 : List Int) (r2 : Bool) (w : World) (hr0_1 : Kd.C k78 w A0_1 l0_1.length l0_1) (hc0_1 : l0_1.length ≤ c0_1) (hr1 : Kd.C (Kd.int .i64) w A1 l1.length l1) (hc1 : l1.length ≤ c1) (h : spec_BestAnswer.f k a0_0 l0_1 l1 a2 a3 = some (r1, r2)) :
  Calls Tryd.prog 20 #[.agg #[.int .i64 a0_0, .slice A0_1 l0_1.length c0_1], .slice A1 l1.length c1, .int .i64 a2, .bool a3] w fun e w' => ∃ v0_ : Value, e = .returned (.tuple #[v0_, .bool r2]) ∧ Kd.R (Kd.int .i64) 3 w' w.heap.size (fun _ => True) v0_ r1 ∧ Below w.heap.size w w' := by
 have hu29 := Tryd.underlying29
 have HR0_1 := Aside0.mk hr0_1
 have HC0_1 := Aside0.mk hc0_1
 clear hr0_1 hc0_1
 have HR1 := Aside0.mk hr1
 have HC1 := Aside0.mk hc1
 clear hr1 hc1
 have HB := aM (Below.refl w.heap.size w)
 have H : ((spec_l2Good.f a0_0 l0_1).bind fun t325 => (if t325 = true then ((spec_l2Set.f k a0_0 l0_1 l1).bind fun t326 => (if t326 = true then ((spec_l2Node.f a0_0 l0_1 a2).bind fun t327 => (if t327 = true then ((spec_l1Has.f k l1 a2).bind fun t328 => (spec_BestAnswer.j0 k l1 a2 a3 t328 a0_0 l0_1)) else (spec_BestAnswer.j0 k l1 a2 a3 true a0_0 l0_1))) else (spec_BestAnswer.j0 k l1 a2 a3 true a0_0 l0_1))) else (spec_BestAnswer.j0 k l1 a2 a3 true a0_0 l0_1))) = some (r1, r2) := h
 clear h
 have HC5 := Aside0.mk H
 clear H
 go_enter Tryd.func20, Tryd.ntmps20
 go_upto_region 1 with (first | ((with_reducible refine gate_dst (N := 4) rfl ?_);refine box_event ?hg (N := 4) ?hd (cs := #[.int .i64 a0_0, .slice A0_1 l0_1.length c0_1]) (t := 29) ?hr ?_;(case hd => rfl);(case hg => rfl);(case hr => exact gS);intro gb324 hg w6 hbox hb;have n0_ := aM (below_step (by exact bB) hb);have n1_ := aM (hbox);have n2_ := aM (sW hg : w.heap.size ≤ gb324);have n3_ := aM (sW hg : w.heap.size ≤ gb324);clear HB;have HB := n0_;have BK324 := n1_;have GW324 := n2_;have GE324 := n3_;clear n0_ n1_ n2_ n3_;clear hb hbox hg))
 (try simp only [Act.put, List.setIfInBounds_toArray, List.set_cons_zero, List.set_cons_succ])
 go_cut [32] (fun v32 wc => ∃ (kq : Nat) (x32_4 : Bool), v32 = .bool x32_4 ∧ Aside0 (spec_BestAnswer.j0 kq l1 a2 a3 x32_4 a0_0 l0_1 = some (r1, r2)) ∧ Aside0 (kq ≤ k) ∧ Aside0 (wc.heap[gb324]? = some (.cells #[.int .i64 a0_0, (.slice A0_1 l0_1.length c0_1)] 29 (0, 0))) ∧ Aside0 (Below w.heap.size w wc))
 case first =>
  have H := HC5.out
  clear HC5
  replace H := Option.bind_eq_some_iff.mp H
  obtain ⟨t325, A70, H⟩ := H
  replace H : (if t325 = true then ((spec_l2Set.f k a0_0 l0_1 l1).bind fun t326 => (if t326 = true then ((spec_l2Node.f a0_0 l0_1 a2).bind fun t327 => (if t327 = true then ((spec_l1Has.f k l1 a2).bind fun t328 => (spec_BestAnswer.j0 k l1 a2 a3 t328 a0_0 l0_1)) else (spec_BestAnswer.j0 k l1 a2 a3 true a0_0 l0_1))) else (spec_BestAnswer.j0 k l1 a2 a3 true a0_0 l0_1))) else (spec_BestAnswer.j0 k l1 a2 a3 true a0_0 l0_1)) = some (r1, r2) := H
  have A7 := Aside0.mk A70
  clear A70
  by_cases c8 : t325 = true
  rotate_left
  ·replace c8 := Bool.eq_false_iff.mpr c8
   subst c8
   have H1 : (spec_BestAnswer.j0 k l1 a2 a3 true a0_0 l0_1) = some (r1, r2) := by rw [if_neg (show ¬ (false = true) by decide)] at H;exact H
   clear H
   have H := H1
   clear H1
   have H' := Aside0.mk H
   clear H
   have hcz30_0 := bC0 BK324.out
   have hcz30_1 := bC1 BK324.out
   have hfz30_0 := blk_frozen BK324.out 0
   have hfz30_1 := blk_frozen BK324.out 1
   go_wp2_with (first | ((with_reducible refine gate_callee (f := 37) rfl ?_);refine goesL_ (some 14) rfl rfl Tryd.func37 (by kernel_rfl) rfl #[.agg #[.int .i64 a0_0, .slice A0_1 l0_1.length c0_1]] rfl mM ?_;(with_reducible refine (spec_l2Good.calls a0_0 _ _ l0_1 false _ ?side1 ?side2 A7.out).mono ?_);(case side1 => exact cP (Kd.C_below HR0_1.out HB.out));(case side2 => exact HC0_1.out);rintro e w31 ⟨rfl, hb⟩;refine ⟨_, rfl, ?_⟩;have n0_ := aM (kB hb BK324.out);have n1_ := aM (below_step (by exact bB) hb);clear BK324;clear HB;have BK324 := n0_;have HB := n1_;clear n0_ n1_;(try clear hb)))
   go_meet
   case rel => exact ⟨_, (true), eF, H', ⟨by first | omega | exact Nat.le_refl _⟩, ⟨by exact kP BK324.out⟩, ⟨by exact bB⟩⟩
  subst c8
  have H1 : ((spec_l2Set.f k a0_0 l0_1 l1).bind fun t326 => (if t326 = true then ((spec_l2Node.f a0_0 l0_1 a2).bind fun t327 => (if t327 = true then ((spec_l1Has.f k l1 a2).bind fun t328 => (spec_BestAnswer.j0 k l1 a2 a3 t328 a0_0 l0_1)) else (spec_BestAnswer.j0 k l1 a2 a3 true a0_0 l0_1))) else (spec_BestAnswer.j0 k l1 a2 a3 true a0_0 l0_1))) = some (r1, r2) := by rw [if_pos rfl] at H;exact H
  clear H
  have H := H1
  clear H1
  replace H := Option.bind_eq_some_iff.mp H
  obtain ⟨t326, A90, H⟩ := H
  replace H : (if t326 = true then ((spec_l2Node.f a0_0 l0_1 a2).bind fun t327 => (if t327 = true then ((spec_l1Has.f k l1 a2).bind fun t328 => (spec_BestAnswer.j0 k l1 a2 a3 t328 a0_0 l0_1)) else (spec_BestAnswer.j0 k l1 a2 a3 true a0_0 l0_1))) else (spec_BestAnswer.j0 k l1 a2 a3 true a0_0 l0_1)) = some (r1, r2) := H
  have A9 := Aside0.mk A90
  clear A90
  by_cases c10 : t326 = true
  rotate_left
  ·replace c10 := Bool.eq_false_iff.mpr c10
   subst c10
   have H1 : (spec_BestAnswer.j0 k l1 a2 a3 true a0_0 l0_1) = some (r1, r2) := by rw [if_neg (show ¬ (false = true) by decide)] at H;exact H
   clear H
   have H := H1
   clear H1
   have H' := Aside0.mk H
   clear H
   have hcz26_0 := bC0 BK324.out
   have hcz26_1 := bC1 BK324.out
   have hfz26_0 := blk_frozen BK324.out 0
   have hfz26_1 := blk_frozen BK324.out 1
   go_wp2_with (first | ((with_reducible refine gate_callee (f := 37) rfl ?_);refine goesL_ (some 14) rfl rfl Tryd.func37 (by kernel_rfl) rfl #[.agg #[.int .i64 a0_0, .slice A0_1 l0_1.length c0_1]] rfl mM ?_;(with_reducible refine (spec_l2Good.calls a0_0 _ _ l0_1 true _ ?side1 ?side2 A7.out).mono ?_);(case side1 => exact cP (Kd.C_below HR0_1.out HB.out));(case side2 => exact HC0_1.out);rintro e w27 ⟨rfl, hb⟩;refine ⟨_, rfl, ?_⟩;have n0_ := aM (kB hb BK324.out);have n1_ := aM (below_step (by exact bB) hb);clear BK324;clear HB;have BK324 := n0_;have HB := n1_;clear n0_ n1_;(try clear hb);have hcz28_0 := bC0 BK324.out;have hcz28_1 := bC1 BK324.out;have hfz28_0 := blk_frozen BK324.out 0;have hfz28_1 := blk_frozen BK324.out 1) | (go_at_call 38;(with_reducible refine (spec_l2Set.calls k a0_0 _ _ l0_1 _ _ l1 false _ ?side1 ?side2 ?side3 ?side4 A9.out).mono ?_);(case side1 => exact cP (Kd.C_below HR0_1.out HB.out));(case side2 => exact HC0_1.out);(case side3 => exact cP (Kd.C_below HR1.out HB.out));(case side4 => exact HC1.out);rintro e w29 ⟨rfl, hb⟩;have n0_ := aM (kB hb BK324.out);have n1_ := aM (below_step (by exact bB) hb);clear BK324;clear HB;have BK324 := n0_;have HB := n1_;clear n0_ n1_;(try clear hb)))
   go_meet
   case rel => exact ⟨_, (true), eF, H', ⟨by first | omega | exact Nat.le_refl _⟩, ⟨by exact kP BK324.out⟩, ⟨by exact bB⟩⟩
  subst c10
  have H1 : ((spec_l2Node.f a0_0 l0_1 a2).bind fun t327 => (if t327 = true then ((spec_l1Has.f k l1 a2).bind fun t328 => (spec_BestAnswer.j0 k l1 a2 a3 t328 a0_0 l0_1)) else (spec_BestAnswer.j0 k l1 a2 a3 true a0_0 l0_1))) = some (r1, r2) := by rw [if_pos rfl] at H;exact H
  clear H
  have H := H1
  clear H1
  replace H := Option.bind_eq_some_iff.mp H
  obtain ⟨t327, A110, H⟩ := H
  replace H : (if t327 = true then ((spec_l1Has.f k l1 a2).bind fun t328 => (spec_BestAnswer.j0 k l1 a2 a3 t328 a0_0 l0_1)) else (spec_BestAnswer.j0 k l1 a2 a3 true a0_0 l0_1)) = some (r1, r2) := H
  have A11 := Aside0.mk A110
  clear A110
  by_cases c12 : t327 = true
  rotate_left
  ·replace c12 := Bool.eq_false_iff.mpr c12
   subst c12
   have H1 : (spec_BestAnswer.j0 k l1 a2 a3 true a0_0 l0_1) = some (r1, r2) := by rw [if_neg (show ¬ (false = true) by decide)] at H;exact H
   clear H
   have H := H1
   clear H1
   have H' := Aside0.mk H
   clear H
   have hcz20_0 := bC0 BK324.out
   have hcz20_1 := bC1 BK324.out
   have hfz20_0 := blk_frozen BK324.out 0
   have hfz20_1 := blk_frozen BK324.out 1
   go_wp2_with (first | ((with_reducible refine gate_callee (f := 37) rfl ?_);refine goesL_ (some 14) rfl rfl Tryd.func37 (by kernel_rfl) rfl #[.agg #[.int .i64 a0_0, .slice A0_1 l0_1.length c0_1]] rfl mM ?_;(with_reducible refine (spec_l2Good.calls a0_0 _ _ l0_1 true _ ?side1 ?side2 A7.out).mono ?_);(case side1 => exact cP (Kd.C_below HR0_1.out HB.out));(case side2 => exact HC0_1.out);rintro e w21 ⟨rfl, hb⟩;refine ⟨_, rfl, ?_⟩;have n0_ := aM (kB hb BK324.out);have n1_ := aM (below_step (by exact bB) hb);clear BK324;clear HB;have BK324 := n0_;have HB := n1_;clear n0_ n1_;(try clear hb);have hcz22_0 := bC0 BK324.out;have hcz22_1 := bC1 BK324.out;have hfz22_0 := blk_frozen BK324.out 0;have hfz22_1 := blk_frozen BK324.out 1) | (go_at_call 38;(with_reducible refine (spec_l2Set.calls k a0_0 _ _ l0_1 _ _ l1 true _ ?side1 ?side2 ?side3 ?side4 A9.out).mono ?_);(case side1 => exact cP (Kd.C_below HR0_1.out HB.out));(case side2 => exact HC0_1.out);(case side3 => exact cP (Kd.C_below HR1.out HB.out));(case side4 => exact HC1.out);rintro e w23 ⟨rfl, hb⟩;have n0_ := aM (kB hb BK324.out);have n1_ := aM (below_step (by exact bB) hb);clear BK324;clear HB;have BK324 := n0_;have HB := n1_;clear n0_ n1_;(try clear hb);have hcz24_0 := bC0 BK324.out;have hcz24_1 := bC1 BK324.out;have hfz24_0 := blk_frozen BK324.out 0;have hfz24_1 := blk_frozen BK324.out 1) | (go_at_call 50;(with_reducible refine (spec_l2Node.calls a0_0 _ _ l0_1 a2 false _ ?side1 ?side2 A11.out).mono ?_);(case side1 => exact cP (Kd.C_below HR0_1.out HB.out));(case side2 => exact HC0_1.out);rintro e w25 ⟨rfl, hb⟩;have n0_ := aM (kB hb BK324.out);have n1_ := aM (below_step (by exact bB) hb);clear BK324;clear HB;have BK324 := n0_;have HB := n1_;clear n0_ n1_;(try clear hb)))
   go_meet
   case rel => exact ⟨_, (true), eF, H', ⟨by first | omega | exact Nat.le_refl _⟩, ⟨by exact kP BK324.out⟩, ⟨by exact bB⟩⟩
  subst c12
  have H1 : ((spec_l1Has.f k l1 a2).bind fun t328 => (spec_BestAnswer.j0 k l1 a2 a3 t328 a0_0 l0_1)) = some (r1, r2) := by rw [if_pos rfl] at H;exact H
  clear H
  have H := H1
  clear H1
  replace H := Option.bind_eq_some_iff.mp H
  obtain ⟨t328, A130, H⟩ := H
  replace H : (spec_BestAnswer.j0 k l1 a2 a3 t328 a0_0 l0_1) = some (r1, r2) := H
  have A13 := Aside0.mk A130
  clear A130
  have H' := Aside0.mk H
  clear H
  have hcz14_0 := bC0 BK324.out
  have hcz14_1 := bC1 BK324.out
  have hfz14_0 := blk_frozen BK324.out 0
  have hfz14_1 := blk_frozen BK324.out 1
  go_wp2_with (first | ((with_reducible refine gate_callee (f := 37) rfl ?_);refine goesL_ (some 14) rfl rfl Tryd.func37 (by kernel_rfl) rfl #[.agg #[.int .i64 a0_0, .slice A0_1 l0_1.length c0_1]] rfl mM ?_;(with_reducible refine (spec_l2Good.calls a0_0 _ _ l0_1 true _ ?side1 ?side2 A7.out).mono ?_);(case side1 => exact cP (Kd.C_below HR0_1.out HB.out));(case side2 => exact HC0_1.out);rintro e w15 ⟨rfl, hb⟩;refine ⟨_, rfl, ?_⟩;have n0_ := aM (kB hb BK324.out);have n1_ := aM (below_step (by exact bB) hb);clear BK324;clear HB;have BK324 := n0_;have HB := n1_;clear n0_ n1_;(try clear hb);have hcz16_0 := bC0 BK324.out;have hcz16_1 := bC1 BK324.out;have hfz16_0 := blk_frozen BK324.out 0;have hfz16_1 := blk_frozen BK324.out 1) | (go_at_call 38;(with_reducible refine (spec_l2Set.calls k a0_0 _ _ l0_1 _ _ l1 true _ ?side1 ?side2 ?side3 ?side4 A9.out).mono ?_);(case side1 => exact cP (Kd.C_below HR0_1.out HB.out));(case side2 => exact HC0_1.out);(case side3 => exact cP (Kd.C_below HR1.out HB.out));(case side4 => exact HC1.out);rintro e w17 ⟨rfl, hb⟩;have n0_ := aM (kB hb BK324.out);have n1_ := aM (below_step (by exact bB) hb);clear BK324;clear HB;have BK324 := n0_;have HB := n1_;clear n0_ n1_;(try clear hb);have hcz18_0 := bC0 BK324.out;have hcz18_1 := bC1 BK324.out;have hfz18_0 := blk_frozen BK324.out 0;have hfz18_1 := blk_frozen BK324.out 1) | (go_at_call 50;(with_reducible refine (spec_l2Node.calls a0_0 _ _ l0_1 a2 true _ ?side1 ?side2 A11.out).mono ?_);(case side1 => exact cP (Kd.C_below HR0_1.out HB.out));(case side2 => exact HC0_1.out);rintro e w19 ⟨rfl, hb⟩;have n0_ := aM (kB hb BK324.out);have n1_ := aM (below_step (by exact bB) hb);clear BK324;clear HB;have BK324 := n0_;have HB := n1_;clear n0_ n1_;(try clear hb)) | (go_at_call 43;(with_reducible refine (spec_l1Has.calls k _ _ l1 a2 t328 _ ?side1 ?side2 A13.out).mono ?_);(case side1 => exact cP (Kd.C_below HR1.out HB.out));(case side2 => exact HC1.out);rintro e w' ⟨rfl, ⟨nd, rfl⟩⟩))
  go_meet
  case rel => exact ⟨_, (t328), eF, H', ⟨by first | omega | exact Nat.le_refl _⟩, ⟨by exact kP BK324.out⟩, ⟨by exact bB⟩⟩
 case rest =>
  clear HC5
  try clear c1
  try clear c2
  try clear p2
  try clear c3
  try clear c8
  try clear c10
  try clear c12
  try clear c20
  try clear hcz14_0
  try clear hcz14_1
  try clear hcz16_0
  try clear hcz16_1
  try clear hcz18_0
  try clear hcz18_1
  try clear hcz20_0
  try clear hcz20_1
  try clear hcz22_0
  try clear hcz22_1
  try clear hcz24_0
  try clear hcz24_1
  try clear hcz26_0
  try clear hcz26_1
  try clear hcz28_0
  try clear hcz28_1
  try clear hcz30_0
  try clear hcz30_1
  try clear hfz14_0
  try clear hfz14_1
  try clear hfz16_0
  try clear hfz16_1
  try clear hfz18_0
  try clear hfz18_1
  try clear hfz20_0
  try clear hfz20_1
  try clear hfz22_0
  try clear hfz22_1
  try clear hfz24_0
  try clear hfz24_1
  try clear hfz26_0
  try clear hfz26_1
  try clear hfz28_0
  try clear hfz28_1
  try clear hfz30_0
  try clear hfz30_1
  obtain ⟨kq, x32_4, rfl, HA, HJ4, BK324, HB⟩ := hcut
  cases kq with
  | zero => exact absurd HA.out (by simp [spec_BestAnswer.j0])
  | succ kj4 =>
   have H := HA.out
   clear HA
   simp only [spec_BestAnswer.j0] at H
   by_cases c32 : x32_4 = true
   ·subst c32
    have H1 : (some ((([] : List Int)), false)) = some (r1, r2) := by rw [if_pos rfl] at H;exact H
    clear H
    have H := H1
    clear H1
    obtain ⟨y329, hy329⟩ : ∃ y_ : List Int, y_ = (([] : List Int)) := ⟨_, rfl⟩
    replace H : (some (y329, false)) = some (r1, r2) := by first | (rw [hy329];with_reducible exact H) | (have H2_ := (Option.bind_some _ _).symm.trans H;rw [hy329];with_reducible exact H2_) | (have H2_ := (Option.bind_some _ _).symm.trans H;with_reducible exact H2_) | with_reducible exact H | (rw [hy329];exact H) | exact H
    have Ny329 := Aside0.mk hy329
    clear hy329
    simp only [Option.some.injEq, Prod.mk.injEq] at H
    obtain ⟨rfl, rfl⟩ := H
    go_wp2_with (first | ((with_reducible refine gate_dst (N := 33) rfl ?_);refine Kd.R_lit (Kd.int .i64) _ 3 ?hg (N := 33) ?hd (xs := ([] : List Int)) (inner := []) (ok := fun _ => True) (okp := fun _ => True) ?hr ?hp (fun _ hk => hk) trivial (Below.refl _ _) (Nat.le_refl _) (by simp) ?_;(case hd => rfl);(case hg => rfl);(case hr => exact gS);(case hp => exact (Reps.none _ _));intro v330 w33 ho34 hb hg_ hnew_;clear hg_ hnew_;(first | rw [← Ny329.out] at ho34 | (simp only [Int.reduceToNat] at ho34;rw [← Ny329.out] at ho34));have n0_ := aM (Kd.R_lower ho34 (below_size (by exact bB)));have n1_ := aM (kB hb BK324.out);have n2_ := aM (below_step (by exact bB) hb);clear BK324;clear HB;have HO331 := n0_;have BK324 := n1_;have HB := n2_;clear n0_ n1_ n2_;clear hb ho34))
    go_ret2
    exact ⟨_, eW, by exact rP HO331.out, by exact bB⟩
   replace c32 := Bool.eq_false_iff.mpr c32
   subst c32
   have H1 : ((spec_l10Sets.f kj4 a0_0 l0_1 (l1.length : Int)).bind fun t332 => ((spec_l10Table.f kj4 a0_0 l0_1 t332 a3).bind fun t335 => ((spec_l10Resist.f kj4 t332 t335).bind fun t338 => ((spec_l4At.f kj4 t332 l1).bind fun t341 => ((spec_l10Best.f kj4 t335 t338 t341 a2).bind fun t342 => (if t342 < 0 then (some ((([] : List Int)), false)) else (if 0 ≤ t342 then (if t342 < (t332.length : Int) then ((spec_l1Own.f (rd_L2 t332 t342)).bind fun t347 => (some (t347, true))) else (none)) else (none)))))))) = some (r1, r2) := by rw [if_neg (show ¬ (false = true) by decide)] at H;exact H
   clear H
   have H := H1
   clear H1
   replace H := Option.bind_eq_some_iff.mp H
   obtain ⟨t332, A350, H⟩ := H
   replace H : ((spec_l10Table.f kj4 a0_0 l0_1 t332 a3).bind fun t335 => ((spec_l10Resist.f kj4 t332 t335).bind fun t338 => ((spec_l4At.f kj4 t332 l1).bind fun t341 => ((spec_l10Best.f kj4 t335 t338 t341 a2).bind fun t342 => (if t342 < 0 then (some ((([] : List Int)), false)) else (if 0 ≤ t342 then (if t342 < (t332.length : Int) then ((spec_l1Own.f (rd_L2 t332 t342)).bind fun t347 => (some (t347, true))) else (none)) else (none))))))) = some (r1, r2) := H
   have A35 := Aside0.mk A350
   clear A350
   replace H := Option.bind_eq_some_iff.mp H
   obtain ⟨t335, A360, H⟩ := H
   replace H : ((spec_l10Resist.f kj4 t332 t335).bind fun t338 => ((spec_l4At.f kj4 t332 l1).bind fun t341 => ((spec_l10Best.f kj4 t335 t338 t341 a2).bind fun t342 => (if t342 < 0 then (some ((([] : List Int)), false)) else (if 0 ≤ t342 then (if t342 < (t332.length : Int) then ((spec_l1Own.f (rd_L2 t332 t342)).bind fun t347 => (some (t347, true))) else (none)) else (none)))))) = some (r1, r2) := H
   have A36 := Aside0.mk A360
   clear A360
   replace H := Option.bind_eq_some_iff.mp H
   obtain ⟨t338, A370, H⟩ := H
   replace H : ((spec_l4At.f kj4 t332 l1).bind fun t341 => ((spec_l10Best.f kj4 t335 t338 t341 a2).bind fun t342 => (if t342 < 0 then (some ((([] : List Int)), false)) else (if 0 ≤ t342 then (if t342 < (t332.length : Int) then ((spec_l1Own.f (rd_L2 t332 t342)).bind fun t347 => (some (t347, true))) else (none)) else (none))))) = some (r1, r2) := H
   have A37 := Aside0.mk A370
   clear A370
   replace H := Option.bind_eq_some_iff.mp H
   obtain ⟨t341, A380, H⟩ := H
   replace H : ((spec_l10Best.f kj4 t335 t338 t341 a2).bind fun t342 => (if t342 < 0 then (some ((([] : List Int)), false)) else (if 0 ≤ t342 then (if t342 < (t332.length : Int) then ((spec_l1Own.f (rd_L2 t332 t342)).bind fun t347 => (some (t347, true))) else (none)) else (none)))) = some (r1, r2) := H
   have A38 := Aside0.mk A380
   clear A380
   replace H := Option.bind_eq_some_iff.mp H
   obtain ⟨t342, A390, H⟩ := H
   replace H : (if t342 < 0 then (some ((([] : List Int)), false)) else (if 0 ≤ t342 then (if t342 < (t332.length : Int) then ((spec_l1Own.f (rd_L2 t332 t342)).bind fun t347 => (some (t347, true))) else (none)) else (none))) = some (r1, r2) := H
   have A39 := Aside0.mk A390
   clear A390
   by_cases c40 : t342 < 0
   ·rw [if_pos c40] at H
    have c40b0 : decide (t342 < 0) = true := decide_eq_true c40
    clear c40
    obtain ⟨y343, hy343⟩ : ∃ y_ : List Int, y_ = (([] : List Int)) := ⟨_, rfl⟩
    replace H : (some (y343, false)) = some (r1, r2) := by first | (rw [hy343];with_reducible exact H) | (have H2_ := (Option.bind_some _ _).symm.trans H;rw [hy343];with_reducible exact H2_) | (have H2_ := (Option.bind_some _ _).symm.trans H;with_reducible exact H2_) | with_reducible exact H | (rw [hy343];exact H) | exact H
    have Ny343 := Aside0.mk hy343
    clear hy343
    simp only [Option.some.injEq, Prod.mk.injEq] at H
    obtain ⟨rfl, rfl⟩ := H
    have hcz41_0 := bC0 BK324.out
    have hcz41_1 := bC1 BK324.out
    have hfz41_0 := blk_frozen BK324.out 0
    have hfz41_1 := blk_frozen BK324.out 1
    go_wp2_with (first | ((with_reducible refine gate_callee (f := 39) rfl ?_);refine goesL_ (some 37) rfl rfl Tryd.func39 (by kernel_rfl) rfl #[.agg #[.int .i64 a0_0, .slice A0_1 l0_1.length c0_1], .int .i64 (l1.length : Int)] rfl mM ?_;(with_reducible refine (spec_l10Sets.calls kj4 a0_0 _ _ l0_1 (l1.length : Int) t332 _ ?side1 ?side2 A35.out).mono ?_);(case side1 => exact cP (Kd.C_below HR0_1.out HB.out));(case side2 => exact HC0_1.out);rintro e w42 ⟨v333, rfl, ho0, hb⟩;refine ⟨_, rfl, ?_⟩;have n0_ := aM (Kd.N_lower (Kd.N_mono (ok' := fun k_ => k_ ≠ gb324) ho0 (fun k_ hk_ => (Kd.freshB (g := gb324) (o := .cells #[.int .i64 a0_0, .slice A0_1 l0_1.length c0_1] 29 (0, 0)) (by exact kP BK324.out) k_ hk_))) (below_size (by exact bB)));have n1_ := aM (kB hb BK324.out);have n2_ := aM (below_step (by exact bB) hb);clear BK324;clear HB;have HO334 := n0_;have BK324 := n1_;have HB := n2_;clear n0_ n1_ n2_;(try clear hb);(try clear ho0);have hcz43_0 := bC0 BK324.out;have hcz43_1 := bC1 BK324.out;have hfz43_0 := blk_frozen BK324.out 0;have hfz43_1 := blk_frozen BK324.out 1;obtain ⟨Ao44, co44, eo44⟩ := Kd.N_slice HO334.out;subst eo44) | ((with_reducible refine gate_callee (f := 40) rfl ?_);refine goesL_ (some 41) rfl rfl Tryd.func40 (by kernel_rfl) rfl #[.agg #[.int .i64 a0_0, .slice A0_1 l0_1.length c0_1], .slice Ao44 t332.length co44, .bool a3] rfl mM ?_;(with_reducible refine (spec_l10Table.calls kj4 a0_0 _ _ l0_1 _ _ t332 a3 t335 _ ?side1 ?side2 ?side3 ?side4 A36.out).mono ?_);(case side1 => exact cP (Kd.C_below HR0_1.out HB.out));(case side2 => exact HC0_1.out);(case side3 => exact cP (Kd.N_reads' HO334.out).2.2);(case side4 => exact (Kd.N_reads' HO334.out).2.1);rintro e w45 ⟨v336, rfl, ho0, hb⟩;refine ⟨_, rfl, ?_⟩;have n0_ := aM (Kd.N_elder' (by exact uP HO334.out) (Kd.R_base ho0) hb);have n1_ := aM (Kd.N_lower (Kd.N_mono (ok' := fun k_ => some k_ ≠ (.slice Ao44 t332.length co44 : Value).ownBlock ∧ k_ ≠ gb324) (Kd.R_N (Kd.R_bound ho0)) (fun k_ hk_ => ⟨(Kd.fresh' (Kd.N_lt (by exact uP HO334.out)) k_ hk_.2.1), (Kd.freshB (g := gb324) (o := .cells #[.int .i64 a0_0, .slice A0_1 l0_1.length c0_1] 29 (0, 0)) (by exact kP BK324.out) k_ hk_.2.1)⟩)) (below_size (by exact bB)));have n2_ := aM (kB hb BK324.out);have n3_ := aM (below_step (by exact bB) hb);clear HO334;clear BK324;clear HB;have HO334 := n0_;have HO337 := n1_;have BK324 := n2_;have HB := n3_;clear n0_ n1_ n2_ n3_;(try clear hb);(try clear ho0);obtain ⟨Ao46, co46, eo46⟩ := Kd.N_slice HO337.out;subst eo46) | ((with_reducible refine gate_callee (f := 41) rfl ?_);refine goesL_ (some 45) rfl rfl Tryd.func41 (by kernel_rfl) rfl #[.slice Ao44 t332.length co44, .slice Ao46 t335.length co46] rfl mM ?_;(with_reducible refine (spec_l10Resist.calls kj4 _ _ t332 _ _ t335 t338 _ ?side1 ?side2 ?side3 ?side4 A37.out).mono ?_);(case side1 => exact cP (Kd.N_reads' HO334.out).2.2);(case side2 => exact (Kd.N_reads' HO334.out).2.1);(case side3 => exact cP (Kd.N_reads' HO337.out).2.2);(case side4 => exact (Kd.N_reads' HO337.out).2.1);rintro e w47 ⟨v339, rfl, ho0, hb⟩;refine ⟨_, rfl, ?_⟩;have n0_ := aM (Kd.N_elder' (by exact uP HO334.out) (Kd.R_base ho0) hb);have n1_ := aM (Kd.N_elder' (by exact uP HO337.out) (Kd.R_base ho0) hb);have n2_ := aM (Kd.R_lower ho0 (below_size (by exact bB)));have n3_ := aM (kB hb BK324.out);have n4_ := aM (below_step (by exact bB) hb);clear HO334;clear HO337;clear BK324;clear HB;have HO334 := n0_;have HO337 := n1_;have HO340 := n2_;have BK324 := n3_;have HB := n4_;clear n0_ n1_ n2_ n3_ n4_;(try clear hb);(try clear ho0)) | ((with_reducible refine gate_callee (f := 42) rfl ?_);refine goesL_ (some 48) rfl rfl Tryd.func42 (by kernel_rfl) rfl #[.slice Ao44 t332.length co44, .slice A1 l1.length c1] rfl mM ?_;(with_reducible refine (spec_l4At.calls kj4 _ _ t332 _ _ l1 t341 _ ?side1 ?side2 ?side3 ?side4 A38.out).mono ?_);(case side1 => exact cP (Kd.N_reads' HO334.out).2.2);(case side2 => exact (Kd.N_reads' HO334.out).2.1);(case side3 => exact cP (Kd.C_below HR1.out HB.out));(case side4 => exact HC1.out);rintro e w' ⟨rfl, ⟨nd, rfl⟩⟩;refine ⟨_, rfl, ?_⟩;obtain ⟨Ao48, co48, eo48⟩ := Kd.R_slice HO340.out;subst eo48) | ((with_reducible refine gate_callee (f := 51) rfl ?_);refine goesL_ (some 50) rfl rfl Tryd.func51 (by kernel_rfl) rfl #[.slice Ao46 t335.length co46, .slice Ao48 t338.length co48, .int .i64 t341, .int .i64 a2] rfl mM ?_;(with_reducible refine (spec_l10Best.calls kj4 _ _ t335 _ _ t338 t341 a2 t342 _ ?side1 ?side2 ?side3 ?side4 A39.out).mono ?_);(case side1 => exact cP (Kd.N_reads' HO337.out).2.2);(case side2 => exact (Kd.N_reads' HO337.out).2.1);(case side3 => exact cP (Kd.R_reads' HO340.out).2.2);(case side4 => exact (Kd.R_reads' HO340.out).2.1);rintro e w' ⟨rfl, ⟨nd, rfl⟩⟩;refine ⟨_, rfl, ?_⟩) | ((with_reducible refine gate_dst (N := 53) rfl ?_);refine Kd.R_lit (Kd.int .i64) _ 3 ?hg (N := 53) ?hd (xs := ([] : List Int)) (inner := []) (ok := fun _ => True) (okp := fun _ => True) ?hr ?hp (fun _ hk => hk) trivial (Below.refl _ _) (Nat.le_refl _) (by simp) ?_;(case hd => rfl);(case hg => rfl);(case hr => exact gS);(case hp => exact (Reps.none _ _));intro v344 w49 ho50 hb hg_ hnew_;clear hg_ hnew_;(first | rw [← Ny343.out] at ho50 | (simp only [Int.reduceToNat] at ho50;rw [← Ny343.out] at ho50));have n0_ := aM (Kd.N_elder' (by exact uP HO334.out) (Kd.R_base ho50) hb);have n1_ := aM (Kd.N_elder' (by exact uP HO337.out) (Kd.R_base ho50) hb);have n2_ := aM (Kd.R_elder' (by exact rP HO340.out) (Kd.R_base ho50) hb);have n3_ := aM (Kd.R_lower (Kd.R_new' ho50 (Kd.R_lt (by exact rP HO340.out))) (below_size (by exact bB)));have n4_ := aM (kB hb BK324.out);have n5_ := aM (below_step (by exact bB) hb);clear HO334;clear HO337;clear HO340;clear BK324;clear HB;have HO334 := n0_;have HO337 := n1_;have HO340 := n2_;have HO345 := n3_;have BK324 := n4_;have HB := n5_;clear n0_ n1_ n2_ n3_ n4_ n5_;clear hb ho50))
    go_ret2
    exact ⟨_, eW, by refine rP ?_;exact Kd.R_mono HO345.out (fun _ hk => trivial), by exact bB⟩
   rw [if_neg c40] at H
   have c40b0 : decide (t342 < 0) = false := decide_eq_false c40
   clear c40
   by_cases c51 : 0 ≤ t342
   rotate_left
   ·rw [if_neg c51] at H
    exact absurd H (by simp)
   rw [if_pos c51] at H
   have c51b0 : decide (0 ≤ t342) = true := decide_eq_true c51
   clear c51
   by_cases c52 : t342 < (t332.length : Int)
   rotate_left
   ·rw [if_neg c52] at H
    exact absurd H (by simp)
   rw [if_pos c52] at H
   have c52b0 : decide (t342 < (t332.length : Int)) = true := decide_eq_true c52
   clear c52
   replace H := Option.bind_eq_some_iff.mp H
   obtain ⟨t347, A530, H⟩ := H
   replace H : (some (t347, true)) = some (r1, r2) := H
   have A53 := Aside0.mk A530
   clear A530
   simp only [Option.some.injEq, Prod.mk.injEq] at H
   obtain ⟨rfl, rfl⟩ := H
   have hcz54_0 := bC0 BK324.out
   have hcz54_1 := bC1 BK324.out
   have hfz54_0 := blk_frozen BK324.out 0
   have hfz54_1 := blk_frozen BK324.out 1
   go_wp2_with (first | ((with_reducible refine gate_callee (f := 39) rfl ?_);refine goesL_ (some 37) rfl rfl Tryd.func39 (by kernel_rfl) rfl #[.agg #[.int .i64 a0_0, .slice A0_1 l0_1.length c0_1], .int .i64 (l1.length : Int)] rfl mM ?_;(with_reducible refine (spec_l10Sets.calls kj4 a0_0 _ _ l0_1 (l1.length : Int) t332 _ ?side1 ?side2 A35.out).mono ?_);(case side1 => exact cP (Kd.C_below HR0_1.out HB.out));(case side2 => exact HC0_1.out);rintro e w55 ⟨v333, rfl, ho0, hb⟩;refine ⟨_, rfl, ?_⟩;have n0_ := aM (Kd.N_lower (Kd.N_mono (ok' := fun k_ => k_ ≠ gb324) ho0 (fun k_ hk_ => (Kd.freshB (g := gb324) (o := .cells #[.int .i64 a0_0, .slice A0_1 l0_1.length c0_1] 29 (0, 0)) (by exact kP BK324.out) k_ hk_))) (below_size (by exact bB)));have n1_ := aM (kB hb BK324.out);have n2_ := aM (below_step (by exact bB) hb);clear BK324;clear HB;have HO334 := n0_;have BK324 := n1_;have HB := n2_;clear n0_ n1_ n2_;(try clear hb);(try clear ho0);have hcz56_0 := bC0 BK324.out;have hcz56_1 := bC1 BK324.out;have hfz56_0 := blk_frozen BK324.out 0;have hfz56_1 := blk_frozen BK324.out 1;obtain ⟨Ao57, co57, eo57⟩ := Kd.N_slice HO334.out;subst eo57) | ((with_reducible refine gate_callee (f := 40) rfl ?_);refine goesL_ (some 41) rfl rfl Tryd.func40 (by kernel_rfl) rfl #[.agg #[.int .i64 a0_0, .slice A0_1 l0_1.length c0_1], .slice Ao57 t332.length co57, .bool a3] rfl mM ?_;(with_reducible refine (spec_l10Table.calls kj4 a0_0 _ _ l0_1 _ _ t332 a3 t335 _ ?side1 ?side2 ?side3 ?side4 A36.out).mono ?_);(case side1 => exact cP (Kd.C_below HR0_1.out HB.out));(case side2 => exact HC0_1.out);(case side3 => exact cP (Kd.N_reads' HO334.out).2.2);(case side4 => exact (Kd.N_reads' HO334.out).2.1);rintro e w58 ⟨v336, rfl, ho0, hb⟩;refine ⟨_, rfl, ?_⟩;have n0_ := aM (Kd.N_elder' (by exact uP HO334.out) (Kd.R_base ho0) hb);have n1_ := aM (Kd.N_lower (Kd.N_mono (ok' := fun k_ => some k_ ≠ (.slice Ao57 t332.length co57 : Value).ownBlock ∧ k_ ≠ gb324) (Kd.R_N (Kd.R_bound ho0)) (fun k_ hk_ => ⟨(Kd.fresh' (Kd.N_lt (by exact uP HO334.out)) k_ hk_.2.1), (Kd.freshB (g := gb324) (o := .cells #[.int .i64 a0_0, .slice A0_1 l0_1.length c0_1] 29 (0, 0)) (by exact kP BK324.out) k_ hk_.2.1)⟩)) (below_size (by exact bB)));have n2_ := aM (kB hb BK324.out);have n3_ := aM (below_step (by exact bB) hb);clear HO334;clear BK324;clear HB;have HO334 := n0_;have HO337 := n1_;have BK324 := n2_;have HB := n3_;clear n0_ n1_ n2_ n3_;(try clear hb);(try clear ho0);obtain ⟨Ao59, co59, eo59⟩ := Kd.N_slice HO337.out;subst eo59) | ((with_reducible refine gate_callee (f := 41) rfl ?_);refine goesL_ (some 45) rfl rfl Tryd.func41 (by kernel_rfl) rfl #[.slice Ao57 t332.length co57, .slice Ao59 t335.length co59] rfl mM ?_;(with_reducible refine (spec_l10Resist.calls kj4 _ _ t332 _ _ t335 t338 _ ?side1 ?side2 ?side3 ?side4 A37.out).mono ?_);(case side1 => exact cP (Kd.N_reads' HO334.out).2.2);(case side2 => exact (Kd.N_reads' HO334.out).2.1);(case side3 => exact cP (Kd.N_reads' HO337.out).2.2);(case side4 => exact (Kd.N_reads' HO337.out).2.1);rintro e w60 ⟨v339, rfl, ho0, hb⟩;refine ⟨_, rfl, ?_⟩;have n0_ := aM (Kd.N_elder' (by exact uP HO334.out) (Kd.R_base ho0) hb);have n1_ := aM (Kd.N_elder' (by exact uP HO337.out) (Kd.R_base ho0) hb);have n2_ := aM (Kd.R_lower ho0 (below_size (by exact bB)));have n3_ := aM (kB hb BK324.out);have n4_ := aM (below_step (by exact bB) hb);clear HO334;clear HO337;clear BK324;clear HB;have HO334 := n0_;have HO337 := n1_;have HO340 := n2_;have BK324 := n3_;have HB := n4_;clear n0_ n1_ n2_ n3_ n4_;(try clear hb);(try clear ho0)) | ((with_reducible refine gate_callee (f := 42) rfl ?_);refine goesL_ (some 48) rfl rfl Tryd.func42 (by kernel_rfl) rfl #[.slice Ao57 t332.length co57, .slice A1 l1.length c1] rfl mM ?_;(with_reducible refine (spec_l4At.calls kj4 _ _ t332 _ _ l1 t341 _ ?side1 ?side2 ?side3 ?side4 A38.out).mono ?_);(case side1 => exact cP (Kd.N_reads' HO334.out).2.2);(case side2 => exact (Kd.N_reads' HO334.out).2.1);(case side3 => exact cP (Kd.C_below HR1.out HB.out));(case side4 => exact HC1.out);rintro e w' ⟨rfl, ⟨nd, rfl⟩⟩;refine ⟨_, rfl, ?_⟩;obtain ⟨Ao61, co61, eo61⟩ := Kd.R_slice HO340.out;subst eo61) | ((with_reducible refine gate_callee (f := 51) rfl ?_);refine goesL_ (some 50) rfl rfl Tryd.func51 (by kernel_rfl) rfl #[.slice Ao59 t335.length co59, .slice Ao61 t338.length co61, .int .i64 t341, .int .i64 a2] rfl mM ?_;(with_reducible refine (spec_l10Best.calls kj4 _ _ t335 _ _ t338 t341 a2 t342 _ ?side1 ?side2 ?side3 ?side4 A39.out).mono ?_);(case side1 => exact cP (Kd.N_reads' HO337.out).2.2);(case side2 => exact (Kd.N_reads' HO337.out).2.1);(case side3 => exact cP (Kd.R_reads' HO340.out).2.2);(case side4 => exact (Kd.R_reads' HO340.out).2.1);rintro e w' ⟨rfl, ⟨nd, rfl⟩⟩;refine ⟨_, rfl, ?_⟩;have p346 : 0 ≤ (t342 : Int) := oA;have q346 : t342 < (t332.length : Int) := oA;obtain ⟨ad346, A346_0, c346_0, e346, hx346_0, hl346_0, hi346_0⟩ := at_L2 (Kd.N_reads' HO334.out).2.2 t342 p346 q346;cases e346;obtain ⟨ce346, hce346, hMe346, hcc346⟩ := Kd.N_get HO334.out [] t342 p346 (by first | exact q346 | exact oA | (have e_ := (Kd.N_reads' HO334.out).1;omega));obtain ⟨ua346_0, uc346_0, rfl, ul346_0, ge346_0⟩ := Kd.FK_slice_open hMe346;have hv346_0 := hcc346 0 _ rfl;rw [Nat.add_zero, show ((Kd.slice 3 (Kd.int .i64))).sz = 1 from rfl, Nat.mul_one] at hv346_0;replace hv346_0 := Option.some.inj (hv346_0.symm.trans hx346_0);injection hv346_0 with hva_ hvn_ hvc_;rw [hva_] at ge346_0;rw [hvc_] at ul346_0;have HL346_0 := aM (show Kd.V (Kd.int .i64) 3 _ w.heap.size _ _ (rd_L2 t332 t342) from Kd.V_mk ul346_0 ge346_0);clear hva_ hvn_ hvc_ ge346_0 ul346_0;clear hcc346 hce346;have HR346_0 := Aside0.mk hi346_0;have HC346_0 := Aside0.mk hl346_0;clear hi346_0 hl346_0;replace p346 := eq_true p346;replace q346 := eq_true q346) | ((with_reducible refine gate_callee (f := 52) rfl ?_);refine goesL_ (some 58) rfl rfl Tryd.func52 (by kernel_rfl) rfl #[.slice A346_0 (rd_L2 t332 t342).length c346_0] rfl mM ?_;(with_reducible refine (spec_l1Own.calls _ _ (rd_L2 t332 t342) t347 _ ?side1 ?side2 A53.out).mono ?_);(case side1 => exact cP (by repeat (first | (with_reducible exact HR346_0.out) | (with_reducible refine Kd.C_alloc ?_ _) | (with_reducible refine Kd.C_drewN ?_ _) | (with_reducible refine Kd.C_drew ?_) | exact HR346_0.out)));(case side2 => exact HC346_0.out);rintro e w62 ⟨v348, rfl, ho0, hb⟩;refine ⟨_, rfl, ?_⟩;have n0_ := aM (Kd.N_elder' (by exact uP HO334.out) (Kd.R_base ho0) hb);have n1_ := aM (Kd.N_elder' (by exact uP HO337.out) (Kd.R_base ho0) hb);have n2_ := aM (Kd.R_elder' (by exact rP HO340.out) (Kd.R_base ho0) hb);have n3_ := aM (Kd.V_elder' (by (with_reducible repeat (first | apply Kd.V_alloc | apply Kd.V_drewN | apply Kd.V_drew));exact HL346_0.out) (Kd.R_base ho0) hb);have n4_ := aM (Kd.R_lower (Kd.R_new' ho0 (Kd.R_lt (by exact rP HO340.out))) (below_size (by exact bB)));have n5_ := aM (kB hb BK324.out);have n6_ := aM (Kd.C_below (by repeat (first | (with_reducible exact HR346_0.out) | (with_reducible refine Kd.C_alloc ?_ _) | (with_reducible refine Kd.C_drewN ?_ _) | (with_reducible refine Kd.C_drew ?_) | exact HR346_0.out)) hb);have n7_ := aM (below_step (by exact bB) hb);clear HO334;clear HO337;clear HO340;clear HL346_0;clear BK324;clear HR346_0;clear HB;have HO334 := n0_;have HO337 := n1_;have HO340 := n2_;have HL346_0 := n3_;have HO349 := n4_;have BK324 := n5_;have HR346_0 := n6_;have HB := n7_;clear n0_ n1_ n2_ n3_ n4_ n5_ n6_ n7_;(try clear hb);(try clear ho0)))
   go_ret2
   exact ⟨_, eW, by refine rP ?_;exact Kd.R_mono HO349.out (fun _ hk => trivial), by exact bB⟩


/-! ### impl_netOf: by hand -/
def netStep (w : List Int) (e : S78) : List Int :=
 let w1 := w.set e.f0.toNat (Go.bits .or .i64 (rd w e.f0) (shl .i64 1 e.f1))
 w1.set e.f1.toNat (Go.bits .or .i64 (rd w1 e.f1) (shl .i64 1 e.f0))
def impl_netOf.f (a0_0 : Int) (l0_1 : List S78) : Option (List Int) := if decide (0 ≤ a0_0 ∧ a0_0 ≤ 8) && goodL a0_0 none l0_1 then some (l0_1.foldl netStep (List.replicate a0_0.toNat 0)) else none
theorem impl_netOf.calls (a0_0 : Int) (A0_1 : Option Addr) (c0_1 : Nat) (l0_1 : List (S78)) (r : List Int) (w : World) (hr0_1 : Kd.C k78 w A0_1 l0_1.length l0_1) (hc0_1 : l0_1.length ≤ c0_1) (h : impl_netOf.f a0_0 l0_1 = some r) :
  Calls Tryd.prog 32 #[.agg #[.int .i64 a0_0, .slice A0_1 l0_1.length c0_1]] w fun e w' => ∃ v0_ : Value, e = .returned (.agg #[v0_]) ∧ Kd.R (Kd.int .i64) 3 w' w.heap.size (fun _ => True) v0_ r ∧ Below w.heap.size w w' := by
 have hu29 := Tryd.underlying29
 have hu53 := Tryd.underlying56
 have hu72 := Tryd.underlying78
 have HR0_1 := Aside0.mk hr0_1
 have HC0_1 := Aside0.mk hc0_1
 clear hr0_1 hc0_1
 have HB := aM (Below.refl w.heap.size w)
 unfold impl_netOf.f at h
 by_cases hg : (decide (0 ≤ a0_0 ∧ a0_0 ≤ 8) && goodL a0_0 none l0_1) = true
 case neg => rw [if_neg hg] at h;cases h
 rw [if_pos hg] at h
 simp only [Bool.and_eq_true, decide_eq_true_eq] at hg
 obtain ⟨⟨hn0, hn8⟩, hg2⟩ := hg
 have HE := aM (goodL_all hg2)
 have c2b0 := eq_true hn0
 have c2b1 : decide (0 ≤ a0_0) = true := decide_eq_true hn0
 have hn35 : a0_0.toNat ≤ 35184372088832 := by omega
 have c3b0 := eq_true hn35
 have c3b1 : decide ((a0_0 : Int).toNat ≤ 35184372088832) = true := decide_eq_true hn35
 obtain ⟨y238, hy238⟩ : ∃ y_ : List Int, y_ = (List.replicate (a0_0 : Int).toNat 0) := ⟨_, rfl⟩
 rw [← hy238] at h
 have HN := aM (And.intro hn0 hn8)
 have HYL : Aside0 (y238.length = a0_0.toNat) := ⟨by rw [hy238];simp⟩
 have H' := aM (Option.some.inj h)
 have Ny238 := Aside0.mk hy238
 clear hy238 h hg2 hn0 hn8 hn35
 go_enter Tryd.func32, Tryd.ntmps32
 go_wp2_with (first | ((with_reducible refine gate_dst (N := 1) rfl ?_);refine box_event ?hg (N := 1) ?hd (cs := #[.int .i64 a0_0, .slice A0_1 l0_1.length c0_1]) (t := 29) ?hr ?_;(case hd => rfl);(case hg => rfl);(case hr => exact gS);intro gb236 hg w4 hbox hb;have n0_ := aM (below_step (by exact bB) hb);have n1_ := aM (hbox);have n2_ := aM (sW hg : w.heap.size ≤ gb236);have n3_ := aM (sW hg : w.heap.size ≤ gb236);clear HB;have HB := n0_;have BK236 := n1_;have GW236 := n2_;have GE236 := n3_;clear n0_ n1_ n2_ n3_;clear hb hbox hg) | ((with_reducible refine gate_dst (N := 2) rfl ?_);refine box_event ?hg (N := 2) ?hd (cs := #[.slice none 0 0]) (t := 56) ?hr ?_;(case hd => rfl);(case hg => rfl);(case hr => exact gS);intro gb237 hg w5 hbox hb;have n0_ := aM (kB hb BK236.out);have n1_ := aM (below_step (by exact bB) hb);have n2_ := aM (hbox);have n3_ := aM (sW hg : w.heap.size ≤ gb237);have n4_ := aM (sW hg : w.heap.size ≤ gb237);have n5_ := aM (nL hg (kP BK236.out));have n6_ := aM (nG hg (kP BK236.out));clear BK236;clear HB;have BK236 := n0_;have HB := n1_;have BK237 := n2_;have GW237 := n3_;have GE237 := n4_;have NB236_237 := n5_;have NB237_236 := n6_;clear n0_ n1_ n2_ n3_ n4_ n5_ n6_;clear hb hbox hg;have hnb6 := NB236_237.out;have hnc6 := NB237_236.out;have hcz7_0 := bC0 BK236.out;have hcz7_1 := bC1 BK236.out;have hfz7_0 := blk_frozen BK236.out 0;have hfz7_1 := blk_frozen BK236.out 1) | ((with_reducible refine gate_dst (N := 8) rfl ?_);refine Kd.R_make (Kd.int .i64) _ 3 rfl (N := 8) rfl 36 _ _ rfl a0_0 rfl rfl Tryd.underlying36 (.int .i64 0) 8 infoInt rfl (by decide) (by omega) 0 (ok := fun _ => True) (okp := fun _ => True) rfl (fun _ hk => hk) trivial (oA) (Nat.le_trans (Nat.mul_le_mul_right _ (oA : a0_0.toNat ≤ 35184372088832)) (by omega)) (Below.refl _ _) (Nat.le_refl _) ?_;intro v239 w8 ho9 hb hg_ hnew_;clear hg_ hnew_;(first | rw [← Ny238.out] at ho9 | (simp only [Int.reduceToNat] at ho9;rw [← Ny238.out] at ho9));have n0_ := aM (Kd.R_lower ho9 (below_size (by exact bB)));have n1_ := aM (kB hb BK236.out);have n2_ := aM (kB hb BK237.out);have n3_ := aM (below_step (by exact bB) hb);clear BK236;clear BK237;clear HB;have HO240 := n0_;have BK236 := n1_;have BK237 := n2_;have HB := n3_;clear n0_ n1_ n2_ n3_;clear hb ho9;obtain ⟨Ao10, co10, eo10⟩ := Kd.R_slice HO240.out;subst eo10) | ((with_reducible refine gate_dst (N := 3) rfl ?_);refine box_event ?hg (N := 3) ?hd (cs := #[.slice none 0 0]) (t := 56) ?hr ?_;(case hd => rfl);(case hg => rfl);(case hr => exact gS);intro gb241 hg w11 hbox hb;have n0_ := aM (Kd.R_below (by exact rP HO240.out) hb);have n1_ := aM (kB hb BK236.out);have n2_ := aM (kB hb BK237.out);have n3_ := aM (below_step (by exact bB) hb);have n4_ := aM (hbox);have n5_ := aM (sW hg : w.heap.size ≤ gb241);have n6_ := aM (sW hg : w.heap.size ≤ gb241);have n7_ := aM (nL hg (kP BK236.out));have n8_ := aM (nG hg (kP BK236.out));have n9_ := aM (nL hg (kP BK237.out));have n10_ := aM (nG hg (kP BK237.out));clear HO240;clear BK236;clear BK237;clear HB;have HO240 := n0_;have BK236 := n1_;have BK237 := n2_;have HB := n3_;have BK241 := n4_;have GW241 := n5_;have GE241 := n6_;have NB236_241 := n7_;have NB241_236 := n8_;have NB237_241 := n9_;have NB241_237 := n10_;clear n0_ n1_ n2_ n3_ n4_ n5_ n6_ n7_ n8_ n9_ n10_;clear hb hbox hg;have hnb12 := NB241_236.out;have hnc12 := NB236_241.out;have hnb13 := NB241_237.out;have hnc13 := NB237_241.out;have hcz14_0 := bC0 BK241.out;have hfz14_0 := blk_frozen BK241.out 0;have hcz15_0 := bC0 BK236.out;have hcz15_1 := bC1 BK236.out;have hfz15_0 := blk_frozen BK236.out 0;have hfz15_1 := blk_frozen BK236.out 1))
 go_loopw [13] (fun v13 w' => ∃ (x13_1 : Int) (x242000_1 : List Int) (u242000 : Value), v13 = .int .i64 x13_1 ∧ Aside0 (0 ≤ x13_1 ∧ x13_1 ≤ l0_1.length) ∧ Aside0 ((l0_1.drop x13_1.toNat).foldl netStep x242000_1 = r) ∧ Aside0 (x242000_1.length = a0_0.toNat) ∧ Aside0 (Kd.R (Kd.int .i64) 3 w' w.heap.size (fun _ => True) u242000 x242000_1) ∧ Aside0 (w'.heap[gb236]? = some (.cells #[.int .i64 a0_0, (.slice A0_1 l0_1.length c0_1)] 29 (0, 0))) ∧ Aside0 (w'.heap[gb237]? = some (.cells #[(.slice none 0 0)] 56 (0, 0))) ∧ Aside0 (w'.heap[gb241]? = some (.cells #[u242000] 56 (0, 0))) ∧ Aside0 (Below w.heap.size w w')) (fun v _ => l0_1.length - (intOf v).toNat)
 case atStart => exact ⟨(0), (y238), (.slice Ao10 y238.length co10), rfl, ⟨by omega, by omega⟩, ⟨H'.out⟩, HYL, ⟨by refine rP ?_;exact Kd.R_mono (Kd.R_far (p := ⟨gb241, 0, none⟩) (Kd.R_types HO240.out BK241.out (by decide)) (fun _ hk => hk.2) (.slice Ao10 y238.length co10)) (fun _ hk => trivial)⟩, ⟨by refine kP ?_;refine blk_far ?_ NB236_241.out _;exact kP BK236.out⟩, ⟨by refine kP ?_;refine blk_far ?_ NB237_241.out _;exact kP BK237.out⟩, ⟨by refine kP ?_;refine blk_put (cs := #[.slice none 0 0]) ?_ 0 _ rfl;exact kP BK241.out⟩, ⟨by exact bB⟩⟩
 case round =>
  clear H' HYL Ny238 HO240
  try clear c2
  try clear c2b0
  try clear c2b1
  try clear c3b0
  try clear c3b1
  obtain ⟨x13_1, x242000_1, u242000, rfl, HX, HF, HYL, HO_242000, BK236, BK237, BK241, HB⟩ := hrel
  by_cases hlt : x13_1 < (l0_1.length : Int)
  ·have hlt' : decide (x13_1 < (l0_1.length : Int)) = true := decide_eq_true hlt
   have p0 : 0 ≤ x13_1 := HX.out.1
   obtain ⟨ad, e, hx0, hx1⟩ := at_T78 HR0_1.out x13_1 p0 hlt
   cases e
   replace hx0 := (HB.out.cell (World.block_lt_of_cell? w _ hx0)).trans hx0
   replace hx1 := (HB.out.cell (World.block_lt_of_cell? w _ hx1)).trans hx1
   have HL := Aside0.mk hlt
   have hok := HE.out (rd_T78 l0_1 x13_1) (rd_mem p0 hlt)
   have HF2 : Aside0 ((l0_1.drop (x13_1 + 1).toNat).foldl netStep (netStep x242000_1 (rd_T78 l0_1 x13_1)) = r) := ⟨by rw [← HF.out];exact (foldl_at p0 hlt netStep x242000_1).symm⟩
   have HW1 : Aside0 (wrap64 (x13_1 + 1) = x13_1 + 1) := ⟨by have := HR0_1.out.2.1;unfold wrap64;omega⟩
   obtain ⟨e, he⟩ : ∃ e, e = rd_T78 l0_1 x13_1 := ⟨_, rfl⟩
   rw [← he] at hx0 hx1 hok HF2
   simp only [edgeOk, decide_eq_true_eq] at hok
   have hN := HN.out
   have hYL := HYL.out
   have i0 : 0 ≤ e.f0 := hok.1
   have i1 : e.f0 < (x242000_1.length : Int) := by omega
   have j0 : 0 ≤ e.f1 := by omega
   have j1 : e.f1 < (x242000_1.length : Int) := by omega
   have HOK := aM (show 0 ≤ e.f0 ∧ e.f0 < 8 ∧ 0 ≤ e.f1 ∧ e.f1 < 8 by omega)
   obtain ⟨f0, hf0⟩ : ∃ z, z = e.f0 := ⟨_, rfl⟩
   obtain ⟨f1, hf1⟩ : ∃ z, z = e.f1 := ⟨_, rfl⟩
   have HST : Aside0 (netStep x242000_1 e = ((x242000_1.set f0.toNat (Go.bits .or .i64 (rd x242000_1 f0) (shl .i64 1 f1))).set f1.toNat (Go.bits .or .i64 (rd (x242000_1.set f0.toNat (Go.bits .or .i64 (rd x242000_1 f0) (shl .i64 1 f1))) f1) (shl .i64 1 f0)))) := ⟨by rw [hf0, hf1];rfl⟩
   rw [← hf0] at hx0 i0 i1 HOK
   rw [← hf1] at hx1 j0 j1 HOK
   clear he hok hf0 hf1
   obtain ⟨go, co, eo, gb, gl, cl, HG⟩ := Kd.R_form HO_242000.out (by omega)
   cases eo
   have gne : go ≠ gb241 := fun hE => by
    have h1 := HG;rw [hE, BK241.out] at h1;simp at h1
   have gne' : gb241 ≠ go := fun hE => gne hE.symm
   have hcz3 := bC0 BK241.out
   have hb241 : gb241 < wr.heap.size := blk_lt BK241.out
   have GB := Aside0.mk gb
   have GL := Aside0.mk gl
   clear hN hYL hlt HG gb gl
   replace p0 := eq_true p0
   have hq0 := eq_true HL.out
   go_wp2
   generalize hw1 : (World.alloc wr _) = w1
   have BN : Aside0 (w1.heap[wr.heap.size]? = some (.cells #[.int .i64 f0, .int .i64 f1] 78 (0, 0))) := ⟨by rw [← hw1];exact blk_new wr _⟩
   have HB1 : Aside0 (Below w.heap.size w w1) := ⟨by rw [← hw1];exact below_alloc HB.out _⟩
   have BK1 : Aside0 (w1.heap[gb236]? = some (.cells #[.int .i64 a0_0, (.slice (some ad) l0_1.length c0_1)] 29 (0, 0))) := ⟨by rw [← hw1];exact blk_alloc BK236.out _⟩
   have BK2 : Aside0 (w1.heap[gb237]? = some (.cells #[(.slice none 0 0)] 56 (0, 0))) := ⟨by rw [← hw1];exact blk_alloc BK237.out _⟩
   have BK3 : Aside0 (w1.heap[gb241]? = some (.cells #[.slice (some ⟨go, 0, none⟩) x242000_1.length co] 56 (0, 0))) := ⟨by rw [← hw1];exact blk_alloc BK241.out _⟩
   have HO1 : Aside0 (Kd.R (Kd.int .i64) 3 w1 w.heap.size (fun _ => True) (.slice (some ⟨go, 0, none⟩) x242000_1.length co) x242000_1) := ⟨by rw [← hw1];exact Kd.R_alloc HO_242000.out _⟩
   have hbn : wr.heap.size ≠ go := by have := GL.out;omega
   have hbn' : go ≠ wr.heap.size := fun h => hbn h.symm
   have hbn3 : wr.heap.size ≠ gb241 := by omega
   generalize wr.heap.size = gn at BN hbn hbn' hbn3 ⊢
   clear hw1 hcz3 hx0 hx1 HO_242000 BK236 BK237 BK241 HB hb241
   have hb3 : gb241 < w1.heap.size := blk_lt BK3.out
   have c30 : w1.cell? ⟨gb241, 0, none⟩ = some (.slice (some ⟨go, 0, none⟩) x242000_1.length co) := (blk_cell BK3.out 0).trans rfl
   have cn0 : w1.cell? ⟨gn, 0, none⟩ = some (.int .i64 f0) := (blk_cell BN.out 0).trans rfl
   have cn1 : w1.cell? ⟨gn, 1, none⟩ = some (.int .i64 f1) := (blk_cell BN.out 1).trans rfl
   obtain ⟨cx0, cf0⟩ := Kd.R_celln 0 HO1.out f0 i0 i1
   have HP0 := Kd.R_putg HO1.out f0 (Go.bits .or .i64 (rd x242000_1 f0) (shl .i64 1 f1))
   refine still_tail_drew 11 (by kernel_rfl) (by kernel_rfl) ?_
   simp only [List.take_succ_cons, List.take_zero, List.drop_succ_cons, List.drop_zero]
   replace i0 := eq_true i0
   replace i1 := eq_true i1
   replace j0 := eq_true j0
   replace j1 := eq_true j1
   repeat still_step
   refine wpStill_nil ?_
   have hx1 := eq_true HL.out
   generalize hV0 : Go.bits .or .i64 (rdOf 0 x242000_1 f0) (IntKind.i64.wrap (2 ^ min f1.toNat 64)) = V0
   have HV0 := Aside0.mk hV0
   have HP := aM (Kd.R_putg HO1.out f0 V0).1
   clear hV0 HP0
   go_wp2
   generalize hw3 : (World.setCell _ _ _) = w3
   obtain ⟨ys, hys⟩ : ∃ ys, ys = x242000_1.set f0.toNat V0 := ⟨_, rfl⟩
   have HYS := Aside0.mk hys
   have HO3 : Aside0 (Kd.R (Kd.int .i64) 3 w3 w.heap.size (fun _ => True) (.slice (some ⟨go, 0, none⟩) ys.length co) ys) := ⟨by rw [← hw3, hys];have := HP.out;rw [List.length_set];exact this⟩
   have hyl : ys.length = x242000_1.length := by rw [hys];simp
   have HYL3 := Aside0.mk hyl
   have B3N : Aside0 (w3.heap[gn]? = some (.cells #[.int .i64 f0, .int .i64 f1] 78 (0, 0))) := ⟨by rw [← hw3];exact blk_far BN.out hbn _⟩
   have g236 : gb236 ≠ go := fun hE => by
    have h1 := HO1.out;have h2 := Kd.R_form h1 (by have := of_eq_true i1;have := of_eq_true i0;omega)
    obtain ⟨g', c', e', _, _, cl', hh'⟩ := h2;cases e';rw [← hE, BK1.out] at hh';simp at hh'
   have g237 : gb237 ≠ go := fun hE => by
    have h1 := HO1.out;have h2 := Kd.R_form h1 (by have := of_eq_true i1;have := of_eq_true i0;omega)
    obtain ⟨g', c', e', _, _, cl', hh'⟩ := h2;cases e';rw [← hE, BK2.out] at hh';simp at hh'
   have B31 : Aside0 (w3.heap[gb236]? = some (.cells #[.int .i64 a0_0, (.slice (some ad) l0_1.length c0_1)] 29 (0, 0))) := ⟨by rw [← hw3];exact blk_far BK1.out g236 _⟩
   have B32 : Aside0 (w3.heap[gb237]? = some (.cells #[(.slice none 0 0)] 56 (0, 0))) := ⟨by rw [← hw3];exact blk_far BK2.out g237 _⟩
   have B33 : Aside0 (w3.heap[gb241]? = some (.cells #[.slice (some ⟨go, 0, none⟩) ys.length co] 56 (0, 0))) := ⟨by rw [← hw3, hyl];exact blk_far BK3.out gne' _⟩
   have HB3 : Aside0 (Below w.heap.size w w3) := ⟨by rw [← hw3];exact below_set HB1.out GB.out⟩
   clear hw3 HP HO1 BN BK1 BK2 BK3 HB1 c30 cn0 cn1 cx0 cf0 hb3
   generalize hw4 : World.drew w3 = w4
   replace B3N : Aside0 (w4.heap[gn]? = some (.cells #[.int .i64 f0, .int .i64 f1] 78 (0, 0))) := ⟨by rw [← hw4];exact B3N.out⟩
   replace B31 : Aside0 (w4.heap[gb236]? = some (.cells #[.int .i64 a0_0, (.slice (some ad) l0_1.length c0_1)] 29 (0, 0))) := ⟨by rw [← hw4];exact B31.out⟩
   replace B32 : Aside0 (w4.heap[gb237]? = some (.cells #[(.slice none 0 0)] 56 (0, 0))) := ⟨by rw [← hw4];exact B32.out⟩
   replace B33 : Aside0 (w4.heap[gb241]? = some (.cells #[.slice (some ⟨go, 0, none⟩) ys.length co] 56 (0, 0))) := ⟨by rw [← hw4];exact B33.out⟩
   replace HB3 : Aside0 (Below w.heap.size w w4) := ⟨by rw [← hw4];exact below_drew HB3.out⟩
   replace HO3 : Aside0 (Kd.R (Kd.int .i64) 3 w4 w.heap.size (fun _ => True) (.slice (some ⟨go, 0, none⟩) ys.length co) ys) := ⟨by rw [← hw4];exact Kd.R_drew HO3.out⟩
   clear hw4 hys
   rw [← hyl] at i1 j1
   have hb3 : gb241 < w4.heap.size := blk_lt B33.out
   have c30 : w4.cell? ⟨gb241, 0, none⟩ = some (.slice (some ⟨go, 0, none⟩) ys.length co) := (blk_cell B33.out 0).trans rfl
   have cn0 : w4.cell? ⟨gn, 0, none⟩ = some (.int .i64 f0) := (blk_cell B3N.out 0).trans rfl
   have cn1 : w4.cell? ⟨gn, 1, none⟩ = some (.int .i64 f1) := (blk_cell B3N.out 1).trans rfl
   obtain ⟨cx0, cf0⟩ := Kd.R_celln 0 HO3.out f1 (of_eq_true j0) (of_eq_true j1)
   clear hyl
   refine still_tail_drew 11 (by kernel_rfl) (by kernel_rfl) ?_
   simp only [List.take_succ_cons, List.take_zero, List.drop_succ_cons, List.drop_zero]
   repeat still_step
   refine wpStill_nil ?_
   generalize hV1 : Go.bits .or .i64 (rdOf 0 ys f1) (IntKind.i64.wrap (2 ^ min f0.toNat 64)) = V1
   have HV1 := Aside0.mk hV1
   have HP := aM (Kd.R_putg HO3.out f1 V1).1
   clear hV1
   go_wp2
   go_roundw
   case rel =>
    refine ⟨x13_1 + 1, ys.set f1.toNat V1, _, by rw [HW1.out], ⟨by have := HX.out;have := HL.out;omega⟩, ⟨?_⟩, ⟨by rw [List.length_set, HYL3.out];exact HYL.out⟩, ⟨Kd.R_drew HP.out⟩, ⟨blk_drew (blk_far B31.out g236 _)⟩, ⟨blk_drew (blk_far B32.out g237 _)⟩, ⟨blk_drew (blk_far B33.out gne' _)⟩, ⟨below_drew (below_set HB3.out GB.out)⟩⟩
    rw [← HF2.out, HST.out, ← HV1.out, HYS.out, ← HV0.out]
    simp only [shl, Int.one_mul]
    rfl
   case measure => have := HL.out;have := HX.out;rw [HW1.out];simp [intOf];omega
  ·have hlt' : decide (x13_1 < (l0_1.length : Int)) = false := decide_eq_false hlt
   obtain rfl : x242000_1 = r := by have := HF.out;rw [List.drop_eq_nil_of_le (by omega)] at this;exact this
   clear hlt
   have hnb40 := NB241_236.out
   have hnc40 := NB236_241.out
   have hnb41 := NB241_237.out
   have hnc41 := NB237_241.out
   have hcz42_0 := bC0 BK241.out
   have hfz42_0 := blk_frozen BK241.out 0
   obtain ⟨Ao43, co43, eo43⟩ := Kd.R_slice HO_242000.out
   subst eo43
   have hnb44 := NB237_236.out
   have hnc44 := NB236_237.out
   have hcz45_0 := bC0 BK237.out
   have hfz45_0 := blk_frozen BK237.out 0
   go_wp2
   refine bodyPost_ret (results_cell_row rfl _ _ gb237 56 #[.slice Ao43 x242000_1.length co43] (0, 0) _ rfl (by refine kP ?_;refine blk_put (cs := #[.slice none 0 0]) ?_ 0 _ rfl;exact kP BK237.out) Tryd.underlying56 rfl (by kernel_rfl)) rfl ?_
   exact ⟨_, eW, by refine rP ?_;exact Kd.R_mono (Kd.R_far (p := ⟨gb237, 0, none⟩) (Kd.R_types HO_242000.out BK237.out (by decide)) (fun _ hk => hk.2) (.slice Ao43 x242000_1.length co43)) (fun _ hk => trivial), by exact bB⟩

/-! ### impl_net_size: function 60 -/
def impl_net_size.f (l0_0 : List Int) : Option (Int) := some (l0_0.length : Int)
theorem impl_net_size.calls (A0_0 : Option Addr) (c0_0 : Nat) (l0_0 : List Int) (r : Int) (w : World) (hr0_0 : Kd.C (Kd.int .i64) w A0_0 l0_0.length l0_0) (hc0_0 : l0_0.length ≤ c0_0) (h : impl_net_size.f l0_0 = some r) :
  Calls Tryd.prog 60 #[.agg #[.slice A0_0 l0_0.length c0_0]] w fun e w' => e = .returned (.int .i64 r) ∧ Below w.heap.size w w' := by
 have hu56 := Tryd.underlying56
 have HR0_0 := Aside0.mk hr0_0
 have HC0_0 := Aside0.mk hc0_0
 clear hr0_0 hc0_0
 have HB := aM (Below.refl w.heap.size w)
 have H : (some (l0_0.length : Int)) = some r := h
 clear h
 obtain rfl := Option.some.inj H
 go_enter Tryd.func60, Tryd.ntmps60
 go_wp2_with (first | ((with_reducible refine gate_dst (N := 1) rfl ?_);refine box_event ?hg (N := 1) ?hd (cs := #[.slice A0_0 l0_0.length c0_0]) (t := 56) ?hr ?_;(case hd => rfl);(case hg => rfl);(case hr => exact gS);intro gb410 hg w2 hbox hb;have n0_ := aM (below_step (by exact bB) hb);have n1_ := aM (hbox);have n2_ := aM (sW hg : w.heap.size ≤ gb410);have n3_ := aM (sW hg : w.heap.size ≤ gb410);clear HB;have HB := n0_;have BK410 := n1_;have GW410 := n2_;have GE410 := n3_;clear n0_ n1_ n2_ n3_;clear hb hbox hg;have hcz3_0 := bC0 BK410.out;have hfz3_0 := blk_frozen BK410.out 0))
 go_ret
 exact ⟨eW, by exact bB⟩


/-! ### impl_subsetsOf: function 83 -/
mutual
def impl_subsetsOf.l0 : Nat → List Int → Int → List (List Int) → Int → Int → Option ((List (List Int)))
 | 0, _, _, _, _, _ => none
 | k + 1, x0, x1, x5, x13, x14 => if x14 < x13 then (if 0 ≤ (wrap64 (x14 + 1)) then (if (wrap64 (x14 + 1)) ≤ (x0.length : Int) then ((impl_subsetsOf.f k (x0.drop ((wrap64 (x14 + 1)) : Int).toNat) (wrap64 (x1 - 1))).bind fun t415 => (impl_subsetsOf.l1 k x0 x1 x5 x14 x13 x14 t415 (t415.length : Int) 0)) else (none)) else (none)) else (some x5)
def impl_subsetsOf.l1 : Nat → List Int → Int → List (List Int) → Int → Int → Int → List (List Int) → Int → Int → Option ((List (List Int)))
 | 0, _, _, _, _, _, _, _, _, _ => none
 | k + 1, x0, x1, x5, x6, x13, x14, x23, x24, x25 => if x25 < x24 then (if 0 ≤ x25 then (if x25 < (x23.length : Int) then (if 0 ≤ x6 then (if x6 < (x0.length : Int) then ((some (([rd x0 x6] : List Int) : List Int)).bind fun y420 => (if y420.length + (rd_L2 x23 x25).length < 17592186044416 then (if x5.length < 5864062014805 then (impl_subsetsOf.l1 k x0 x1 (x5 ++ [(y420 ++ (rd_L2 x23 x25))]) x6 x13 x14 x23 x24 (wrap64 (x25 + 1))) else (none)) else (none))) else (none)) else (none)) else (none)) else (none)) else (impl_subsetsOf.l0 k x0 x1 x5 x13 (wrap64 (x14 + 1)))
def impl_subsetsOf.f : Nat → List Int → Int → Option ((List (List Int)))
 | 0, _, _ => none
 | k + 1, l0, a1 => if a1 = 0 then (some (([[]] : List (List Int)))) else (impl_subsetsOf.l0 k l0 a1 ([] : List (List Int)) (l0.length : Int) 0)
end
theorem impl_subsetsOf.mono_l : ∀ k, (∀ y0 y1, LeO (impl_subsetsOf.f k y0 y1) (impl_subsetsOf.f (k + 1) y0 y1)) ∧ (∀ y0 y1 y2 y3 y4, LeO (impl_subsetsOf.l0 k y0 y1 y2 y3 y4) (impl_subsetsOf.l0 (k + 1) y0 y1 y2 y3 y4)) ∧ (∀ y0 y1 y2 y3 y4 y5 y6 y7 y8, LeO (impl_subsetsOf.l1 k y0 y1 y2 y3 y4 y5 y6 y7 y8) (impl_subsetsOf.l1 (k + 1) y0 y1 y2 y3 y4 y5 y6 y7 y8))
 | 0 => ⟨fun _ _ r h => by simp [impl_subsetsOf.f] at h, fun _ _ _ _ _ r h => by simp [impl_subsetsOf.l0] at h, fun _ _ _ _ _ _ _ _ _ r h => by simp [impl_subsetsOf.l1] at h⟩
 | k + 1 => by
  obtain ⟨ih0, ih1, ih2⟩ := impl_subsetsOf.mono_l k
  refine ⟨?_, ?_, ?_⟩
  ·intro y0 y1
   unfold impl_subsetsOf.f
   repeat' first
   | (with_reducible exact ih0 _ _)
   | (with_reducible exact ih1 _ _ _ _ _)
   | (with_reducible exact ih2 _ _ _ _ _ _ _ _ _)
   | (with_reducible exact LeO.refl _)
   | (with_reducible exact LeO.none _)
   | (with_reducible refine LeO.ite ?_ ?_)
   | (with_reducible refine LeO.bind ?_ (fun _ => ?_))
   | exact LeO.none _
   | refine LeO.ite ?_ ?_
   | refine LeO.bind ?_ (fun _ => ?_)
  ·intro y0 y1 y2 y3 y4
   unfold impl_subsetsOf.l0
   repeat' first
   | (with_reducible exact ih0 _ _)
   | (with_reducible exact ih1 _ _ _ _ _)
   | (with_reducible exact ih2 _ _ _ _ _ _ _ _ _)
   | (with_reducible exact LeO.refl _)
   | (with_reducible exact LeO.none _)
   | (with_reducible refine LeO.ite ?_ ?_)
   | (with_reducible refine LeO.bind ?_ (fun _ => ?_))
   | exact LeO.none _
   | refine LeO.ite ?_ ?_
   | refine LeO.bind ?_ (fun _ => ?_)
  ·intro y0 y1 y2 y3 y4 y5 y6 y7 y8
   unfold impl_subsetsOf.l1
   repeat' first
   | (with_reducible exact ih0 _ _)
   | (with_reducible exact ih1 _ _ _ _ _)
   | (with_reducible exact ih2 _ _ _ _ _ _ _ _ _)
   | (with_reducible exact LeO.refl _)
   | (with_reducible exact LeO.none _)
   | (with_reducible refine LeO.ite ?_ ?_)
   | (with_reducible refine LeO.bind ?_ (fun _ => ?_))
   | exact LeO.none _
   | refine LeO.ite ?_ ?_
   | refine LeO.bind ?_ (fun _ => ?_)
theorem impl_subsetsOf.mono : ∀ a0 a1 k, LeO (impl_subsetsOf.f k a0 a1) (impl_subsetsOf.f (k + 1) a0 a1) := by
 intro a0 a1 k
 obtain ⟨ih0, ih1, ih2⟩ := impl_subsetsOf.mono_l k
 exact ih0 a0 a1
theorem impl_subsetsOf.calls (k : Nat) : ∀ (A0 : Option Addr) (c0 : Nat) (l0 : List Int) (a1 : Int) (r : List (List Int)) (w : World) (hr0 : Kd.C (Kd.int .i64) w A0 l0.length l0) (hc0 : l0.length ≤ c0) (h : impl_subsetsOf.f k l0 a1 = some r),
  Calls Tryd.prog 83 #[.slice A0 l0.length c0, .int .i64 a1] w fun e w' => ∃ v0_ : Value, e = .returned (v0_) ∧ Kd.S (Kd.slice 3 (Kd.int .i64)) 36 w' w.heap.size (fun _ => True) v0_ r ∧ Below w.heap.size w w' := by
 induction k using Nat.strongRecOn with
 | _ k ih =>
 intro A0 c0 l0 a1 r w hr0 hc0 h
 cases k with
 | zero => exact absurd h (by simp [impl_subsetsOf.f])
 | succ k =>
 simp only [impl_subsetsOf.f] at h
 have HR0 := Aside0.mk hr0
 have HC0 := Aside0.mk hc0
 clear hr0 hc0
 have HB := aM (Below.refl w.heap.size w)
 have H : (if a1 = 0 then (some (([[]] : List (List Int)))) else (impl_subsetsOf.l0 k l0 a1 ([] : List (List Int)) (l0.length : Int) 0)) = some r := h
 clear h
 by_cases c3 : a1 = 0
 ·rw [if_pos c3] at H
  have c3b0 : (a1 == 0) = true := beq_iff_eq.mpr c3
  have c3b1 : (a1 != 0) = false := bne_eq_false_iff_eq.mpr c3
  clear c3
  obtain ⟨y411, hy411⟩ : ∃ y_ : List (List Int), y_ = (([[]] : List (List Int))) := ⟨_, rfl⟩
  replace H : (some y411) = some r := by first | (rw [hy411];with_reducible exact H) | (have H2_ := (Option.bind_some _ _).symm.trans H;rw [hy411];with_reducible exact H2_) | (have H2_ := (Option.bind_some _ _).symm.trans H;with_reducible exact H2_) | with_reducible exact H | (rw [hy411];exact H) | exact H
  have Ny411 := Aside0.mk hy411
  clear hy411
  obtain rfl := Option.some.inj H
  go_enter Tryd.func83, Tryd.ntmps83
  go_wp2_with (first | ((with_reducible refine gate_dst (N := 11) rfl ?_);refine Kd.S_lit (Kd.slice 3 (Kd.int .i64)) _ 36 ?hg (N := 11) ?hd (xs := ([[]] : List (List Int))) (inner := [.slice none 0 0]) (ok := fun _ => True) (okp := fun _ => True) ?hr ?hp (fun _ hk => hk) trivial (Below.refl _ _) (Nat.le_refl _) (by simp) ?_;(case hd => rfl);(case hg => rfl);(case hr => exact gS);(case hp => exact (Reps.one (show Kd.M (Kd.slice 3 (Kd.int .i64)) _ _ _ [] [.slice none 0 0] from ⟨_, rfl, Kd.R_nil _ _ _ _ _⟩) (Reps.none _ _)));intro v412 w4 ho5 hb hg_ hnew_;clear hg_ hnew_;(first | rw [← Ny411.out] at ho5 | (simp only [Int.reduceToNat] at ho5;rw [← Ny411.out] at ho5));have n0_ := aM (Kd.S_lower ho5 (below_size (by exact bB)));have n1_ := aM (below_step (by exact bB) hb);clear HB;have HO413 := n0_;have HB := n1_;clear n0_ n1_;clear hb ho5))
  go_ret
  exact ⟨_, eW, by (with_reducible repeat (first | apply Kd.S_alloc | apply Kd.S_drewN | apply Kd.S_drew));exact HO413.out, by exact bB⟩
 rw [if_neg c3] at H
 have c3b0 : (a1 == 0) = false := beq_eq_false_iff_ne.mpr c3
 have c3b1 : (a1 != 0) = true := bne_iff_ne.mpr c3
 have H' := Aside0.mk H
 clear H
 go_enter Tryd.func83, Tryd.ntmps83
 go_wp2
 go_loopg [5, 14] k (fun kq v5 v14 w' => ∃ (x5_1 : List (List Int)) (x14_1 : Int), v14 = .int .i64 x14_1 ∧ Aside0 (impl_subsetsOf.l0 kq l0 a1 x5_1 (l0.length : Int) x14_1 = some r) ∧ Aside0 (kq ≤ k) ∧ Aside0 (Kd.S (Kd.slice 3 (Kd.int .i64)) 36 w' w.heap.size (fun _ => True) v5 x5_1) ∧ Aside0 (Below w.heap.size w w'))
 case atStart => exact ⟨(([] : List (List Int))), (0), eF, H', ⟨Nat.le_refl _⟩, ⟨by first | exact Kd.S_nil _ _ _ _ _ | exact Kd.N_nil _ _ _ _ _ | exact Kd.V_nil _ _ _ _ _ | exact Kd.Q_nil _ _ _ _ _ | exact Kd.R_nil _ _ _ _ _⟩, ⟨by exact bB⟩⟩
 case round =>
  clear H'
  try clear p2
  try clear c3
  try clear c3b0
  try clear c3b1
  obtain ⟨x5_1, x14_1, rfl, HA, HK1, HO_5, HB⟩ := hrel
  cases gk with
  | zero => exact absurd HA.out (by simp [impl_subsetsOf.l0])
  | succ k1 =>
   have H := HA.out
   clear HA
   simp only [impl_subsetsOf.l0] at H
   by_cases c6 : x14_1 < (l0.length : Int)
   rotate_left
   ·rw [if_neg c6] at H
    have c6b0 : decide (x14_1 < (l0.length : Int)) = false := decide_eq_false c6
    clear c6
    obtain rfl := Option.some.inj H
    go_wp2
    go_ret
    exact ⟨_, eW, by (with_reducible repeat (first | apply Kd.S_alloc | apply Kd.S_drewN | apply Kd.S_drew));exact HO_5.out, by exact bB⟩
   rw [if_pos c6] at H
   have c6b0 : decide (x14_1 < (l0.length : Int)) = true := decide_eq_true c6
   clear c6
   obtain ⟨ji7, hji7⟩ : ∃ j_ : Int, (wrap64 (x14_1 + 1)) = j_ := ⟨_, rfl⟩
   replace H : (if 0 ≤ (ji7) then (if (ji7) ≤ (l0.length : Int) then ((impl_subsetsOf.f k1 (l0.drop ((ji7) : Int).toNat) (wrap64 (a1 - 1))).bind fun t415 => (impl_subsetsOf.l1 k1 l0 a1 x5_1 x14_1 (l0.length : Int) x14_1 t415 (t415.length : Int) 0)) else (none)) else (none)) = some r := by first | (rw [hji7] at H;exact H) | (simp only [hji7] at H ⊢;exact H)
   have hji7w : (IntKind.i64.wrap (x14_1 + 1)) = ji7 := (i64_w _).trans hji7
   by_cases c8 : 0 ≤ (ji7)
   rotate_left
   ·rw [if_neg c8] at H
    exact absurd H (by simp)
   rw [if_pos c8] at H
   have c8b0 := eq_true c8
   have c8b1 : decide (0 ≤ (ji7)) = true := decide_eq_true c8
   clear c8
   by_cases c9 : (ji7) ≤ (l0.length : Int)
   rotate_left
   ·rw [if_neg c9] at H
    exact absurd H (by simp)
   rw [if_pos c9] at H
   have c9b0 := eq_true c9
   have c9b1 : decide ((ji7) ≤ (l0.length : Int)) = true := decide_eq_true c9
   clear c9
   replace H := Option.bind_eq_some_iff.mp H
   obtain ⟨t415, A100, H⟩ := H
   replace H : (impl_subsetsOf.l1 k1 l0 a1 x5_1 x14_1 (l0.length : Int) x14_1 t415 (t415.length : Int) 0) = some r := H
   have A10 := Aside0.mk A100
   clear A100
   have H' := Aside0.mk H
   clear H
   obtain ⟨i011, hi011, _, hsz11, _⟩ := info_parts info3
   obtain ⟨A11, hcut11, hA11, hC11⟩ := print_drop_of (P := Tryd.prog) (Value.int .i64) 0 36 3 .i64 Tryd.underlying36 hi011 hsz11 A0 c0 l0 (ji7) (oA) (oA) HC0.out
   have HR414 := aM (Kd.C_of_reads (h1 := fun _ => rfl) (hA11 _ (Kd.reads_of_C HR0.out)))
   have HC414 := Aside0.mk hC11
   clear hA11 hC11 hi011 hsz11
   go_wp2_with (first | ((with_reducible refine gate_callee (f := 83) rfl ?_);refine goesL_ (some 23) rfl rfl Tryd.func83 (by kernel_rfl) rfl #[.slice A11 (l0.drop ((ji7) : Int).toNat).length (c0 - (ji7).toNat), .int .i64 (wrap64 (a1 - 1))] rfl (by (try simp only [List.map_toArray, List.map_cons, List.map_nil]);first | done | (rw [show (l0.drop ((ji7) : Int).toNat).length = (l0.length - (ji7).toNat) from List.length_drop] <;> rfl) | (simp only [hji7];rfl) | rfl | (simp only [List.length_drop, List.length_take];rfl)) ?_;(with_reducible refine (ih k1 (by have := HK1.out;omega) _ _ (l0.drop ((ji7) : Int).toNat) (wrap64 (a1 - 1)) t415 _ ?side1 ?side2 A10.out).mono ?_);(case side1 => exact cP (Kd.C_below HR414.out HB.out));(case side2 => exact HC414.out);rintro e w12 ⟨v416, rfl, ho0, hb⟩;refine ⟨_, rfl, ?_⟩;have n0_ := aM (Kd.S_elder' (by exact tP HO_5.out) (Kd.S_base ho0) hb);have n1_ := aM (Kd.S_lower (Kd.S_new' ho0 (Kd.S_lt (by exact tP HO_5.out))) (below_size (by exact bB)));have n2_ := aM (below_step (by exact bB) hb);clear HO_5;clear HB;have HO_5 := n0_;have HO417 := n1_;have HB := n2_;clear n0_ n1_ n2_;(try clear hb);(try clear ho0);obtain ⟨Ao13, co13, eo13⟩ := Kd.S_slice HO417.out;subst eo13))
   go_loopg [5, 25] k1 (fun kq v5 v25 w' => ∃ (x5_2 : List (List Int)) (x25_2 : Int), v25 = .int .i64 x25_2 ∧ Aside0 (impl_subsetsOf.l1 kq l0 a1 x5_2 x14_1 (l0.length : Int) x14_1 t415 (t415.length : Int) x25_2 = some r) ∧ Aside0 (kq ≤ k1) ∧ Aside0 (Kd.S (Kd.slice 3 (Kd.int .i64)) 36 w' w.heap.size (fun k_ => some k_ ≠ ((.slice Ao13 t415.length co13) : Value).ownBlock) v5 x5_2) ∧ Aside0 (Kd.S (Kd.slice 3 (Kd.int .i64)) 36 w' w.heap.size (fun k_ => some k_ ≠ (v5 : Value).ownBlock) (.slice Ao13 t415.length co13) t415) ∧ Aside0 (Below w.heap.size w w'))
   case atStart => exact ⟨(x5_1), (0), eF, H', ⟨Nat.le_refl _⟩, ⟨by (with_reducible repeat (first | apply Kd.S_alloc | apply Kd.S_drewN | apply Kd.S_drew));exact Kd.S_mono HO_5.out (fun _ hk => hk.2)⟩, ⟨by (with_reducible repeat (first | apply Kd.S_alloc | apply Kd.S_drewN | apply Kd.S_drew));exact Kd.S_mono HO417.out (fun _ hk => hk.2)⟩, ⟨by exact bB⟩⟩
   case round =>
    clear H'
    try clear p2
    try clear c3
    try clear c3b0
    try clear c3b1
    try clear c6
    try clear c6b0
    try clear p6
    try clear c8
    try clear c8b0
    try clear c8b1
    try clear c9
    try clear c9b0
    try clear c9b1
    try clear p2
    obtain ⟨x5_2, x25_2, rfl, HA, HK2, HO_5, HO_23, HB⟩ := hrel
    cases gk with
    | zero => exact absurd HA.out (by simp [impl_subsetsOf.l1])
    | succ k2 =>
     have H := HA.out
     clear HA
     simp only [impl_subsetsOf.l1] at H
     by_cases c14 : x25_2 < (t415.length : Int)
     rotate_left
     ·rw [if_neg c14] at H
      have c14b0 : decide (x25_2 < (t415.length : Int)) = false := decide_eq_false c14
      clear c14
      have H' := Aside0.mk H
      clear H
      go_wp2
      go_roundg k2
      case measure => have := HK1.out;have := HK2.out;omega
      case rel => exact ⟨(x5_2), (wrap64 (x14_1 + 1)), eF, H', ⟨by have := HK1.out;have := HK2.out;omega⟩, ⟨by (with_reducible repeat (first | apply Kd.S_alloc | apply Kd.S_drewN | apply Kd.S_drew));exact Kd.S_mono HO_5.out (fun _ hk => trivial)⟩, ⟨by exact bB⟩⟩
     rw [if_pos c14] at H
     have c14b0 : decide (x25_2 < (t415.length : Int)) = true := decide_eq_true c14
     clear c14
     by_cases c15 : 0 ≤ x25_2
     rotate_left
     ·rw [if_neg c15] at H
      exact absurd H (by simp)
     rw [if_pos c15] at H
     have c15b0 : decide (0 ≤ x25_2) = true := decide_eq_true c15
     clear c15
     by_cases c16 : x25_2 < (t415.length : Int)
     rotate_left
     ·rw [if_neg c16] at H
      exact absurd H (by simp)
     rw [if_pos c16] at H
     have c16b0 : decide (x25_2 < (t415.length : Int)) = true := decide_eq_true c16
     clear c16
     by_cases c17 : 0 ≤ x14_1
     rotate_left
     ·rw [if_neg c17] at H
      exact absurd H (by simp)
     rw [if_pos c17] at H
     have c17b0 : decide (0 ≤ x14_1) = true := decide_eq_true c17
     clear c17
     by_cases c18 : x14_1 < (l0.length : Int)
     rotate_left
     ·rw [if_neg c18] at H
      exact absurd H (by simp)
     rw [if_pos c18] at H
     have c18b0 : decide (x14_1 < (l0.length : Int)) = true := decide_eq_true c18
     clear c18
     obtain ⟨y420, hy420⟩ : ∃ y_ : List Int, y_ = (([rd l0 x14_1] : List Int)) := ⟨_, rfl⟩
     replace H : (if y420.length + (rd_L2 t415 x25_2).length < 17592186044416 then (if x5_2.length < 5864062014805 then (impl_subsetsOf.l1 k2 l0 a1 (x5_2 ++ [(y420 ++ (rd_L2 t415 x25_2))]) x14_1 (l0.length : Int) x14_1 t415 (t415.length : Int) (wrap64 (x25_2 + 1))) else (none)) else (none)) = some r := by first | (rw [hy420];with_reducible exact H) | (have H2_ := (Option.bind_some _ _).symm.trans H;rw [hy420];with_reducible exact H2_) | (have H2_ := (Option.bind_some _ _).symm.trans H;with_reducible exact H2_) | with_reducible exact H | (rw [hy420];exact H) | exact H
     have Ny420 := Aside0.mk hy420
     clear hy420
     by_cases c19 : y420.length + (rd_L2 t415 x25_2).length < 17592186044416
     rotate_left
     ·rw [if_neg c19] at H
      exact absurd H (by simp)
     rw [if_pos c19] at H
     have LMc19 := Aside0.mk c19
     clear c19
     obtain ⟨y423, hy423⟩ : ∃ y_ : List Int, y_ = (y420 ++ (rd_L2 t415 x25_2)) := ⟨_, rfl⟩
     replace H : (if x5_2.length < 5864062014805 then (impl_subsetsOf.l1 k2 l0 a1 (x5_2 ++ [y423]) x14_1 (l0.length : Int) x14_1 t415 (t415.length : Int) (wrap64 (x25_2 + 1))) else (none)) = some r := by first | (rw [hy423];with_reducible exact H) | (have H2_ := (Option.bind_some _ _).symm.trans H;rw [hy423];with_reducible exact H2_) | (have H2_ := (Option.bind_some _ _).symm.trans H;with_reducible exact H2_) | with_reducible exact H | (rw [hy423];exact H) | exact H
     have Ny423 := Aside0.mk hy423
     clear hy423
     by_cases c20 : x5_2.length < 5864062014805
     rotate_left
     ·rw [if_neg c20] at H
      exact absurd H (by simp)
     rw [if_pos c20] at H
     have LMc20 := Aside0.mk c20
     clear c20
     obtain ⟨y426, hy426⟩ : ∃ y_ : List (List Int), y_ = (x5_2 ++ [y423]) := ⟨_, rfl⟩
     replace H : (impl_subsetsOf.l1 k2 l0 a1 y426 x14_1 (l0.length : Int) x14_1 t415 (t415.length : Int) (wrap64 (x25_2 + 1))) = some r := by first | (rw [hy426];with_reducible exact H) | (have H2_ := (Option.bind_some _ _).symm.trans H;rw [hy426];with_reducible exact H2_) | (have H2_ := (Option.bind_some _ _).symm.trans H;with_reducible exact H2_) | with_reducible exact H | (rw [hy426];exact H) | exact H
     have Ny426 := Aside0.mk hy426
     clear hy426
     have H' := Aside0.mk H
     clear H
     have p418 : 0 ≤ (x25_2 : Int) := oA
     have q418 : x25_2 < (t415.length : Int) := oA
     obtain ⟨ad418, A418_0, c418_0, e418, hx418_0, hl418_0, hi418_0⟩ := at_L2 (Kd.S_reads' HO_23.out).2.2 x25_2 p418 q418
     cases e418
     obtain ⟨ce418, hce418, hMe418, hcc418⟩ := Kd.S_get HO_23.out [] x25_2 p418 (by first | exact q418 | exact oA | (have e_ := (Kd.S_reads' HO_23.out).1;omega))
     obtain ⟨ve418_0, rfl, ge418_0⟩ := hMe418
     have hv418_0 := hcc418 0 _ rfl
     rw [Nat.add_zero, show ((Kd.slice 3 (Kd.int .i64))).sz = 1 from rfl, Nat.mul_one] at hv418_0
     replace hv418_0 := Option.some.inj (hv418_0.symm.trans hx418_0)
     rw [hv418_0] at ge418_0
     have HL418_0 := aM (show Kd.R (Kd.int .i64) 3 _ _ _ _ (rd_L2 t415 x25_2) from ge418_0)
     clear hv418_0 ge418_0
     clear hcc418 hce418
     have HR418_0 := Aside0.mk hi418_0
     have HC418_0 := Aside0.mk hl418_0
     clear hi418_0 hl418_0
     replace p418 := eq_true p418
     replace q418 := eq_true q418
     have p419 : 0 ≤ (x14_1 : Int) := oA
     have q419 : x14_1 < (l0.length : Int) := oA
     obtain ⟨ad419, e419, hx419_0⟩ := Kd.at_int HR0.out x14_1 p419 q419
     cases e419
     replace hx419_0 := (HB.out.cell (World.block_lt_of_cell? w _ hx419_0)).trans hx419_0
     replace p419 := eq_true p419
     replace q419 := eq_true q419
     go_wp2_with (first | ((with_reducible refine gate_dst (N := 34) rfl ?_);refine Kd.R_lit (Kd.int .i64) _ 3 ?hg (N := 34) ?hd (xs := ([rd l0 x14_1] : List Int)) (inner := [.int .i64 (rd l0 x14_1)]) (ok := fun _ => True) (okp := fun _ => True) ?hr ?hp (fun _ hk => hk) trivial (Below.refl _ _) (Nat.le_refl _) (by simp) ?_;(case hd => rfl);(case hg => rfl);(case hr => exact gS);(case hp => exact (Reps.one (show Kd.M (Kd.int .i64) _ _ _ (rd l0 x14_1) [.int .i64 (rd l0 x14_1)] from rfl) (Reps.none _ _)));intro v421 w21 ho22 hb hg_ hnew_;clear hg_ hnew_;(first | rw [← Ny420.out] at ho22 | (simp only [Int.reduceToNat] at ho22;rw [← Ny420.out] at ho22));have n0_ := aM (Kd.S_elder' (by exact tP HO_5.out) (Kd.R_base ho22) hb);have n1_ := aM (Kd.S_elder' (by exact tP HO_23.out) (Kd.R_base ho22) hb);have n2_ := aM (Kd.R_elder' (by exact rP HL418_0.out) (Kd.R_base ho22) hb);have n3_ := aM (Kd.R_lower (Kd.R_new' ho22 (Kd.R_lt (by exact rP HL418_0.out))) (below_size (by exact bB)));have n4_ := aM (Kd.C_below (by repeat (first | (with_reducible exact HR418_0.out) | (with_reducible refine Kd.C_alloc ?_ _) | (with_reducible refine Kd.C_drewN ?_ _) | (with_reducible refine Kd.C_drew ?_) | exact HR418_0.out)) hb);have n5_ := aM (below_step (by exact bB) hb);clear HO_5;clear HO_23;clear HL418_0;clear HR418_0;clear HB;have HO_5 := n0_;have HO_23 := n1_;have HL418_0 := n2_;have HO422 := n3_;have HR418_0 := n4_;have HB := n5_;clear n0_ n1_ n2_ n3_ n4_ n5_;clear hb ho22) | ((with_reducible refine gate_builtin (b := .append) (xs := #[.tmp 34, .tmp 35]) rfl ?_);at_builtin;refine Kd.R_append_rows (Kd.int .i64) (w0 := w) w.heap.size rfl (.tmp 34) (.tmp 35) 36 3 (.int .i64 0) 8 rfl Tryd.underlying36 info3 rfl (by decide) (by omega) v421 y420 (rd_L2 t415 x25_2) _ _ _ (fun k_ => some k_ ≠ (.slice A418_0 (rd_L2 t415 x25_2).length c418_0 : Value).ownBlock) (fun _ => False) rfl rfl ?aO ?aR (fun _ _ h => h) (fun _ h => h.elim) ?aF ?aB ?aS ?aL ?_;(case aR => exact cP (by repeat (first | (with_reducible exact HR418_0.out) | (with_reducible refine Kd.C_alloc ?_ _) | (with_reducible refine Kd.C_drewN ?_ _) | (with_reducible refine Kd.C_drew ?_) | exact HR418_0.out)));(case aB => exact (by exact bB));(case aF => exact (fun k_ hk => Kd.fresh' (Kd.R_lt (by exact rP HL418_0.out)) k_ hk));(case aO => exact (by refine rP ?_;exact Kd.R_mono HO422.out (fun _ hk => hk.2)));(case aS => exact (below_size (by exact bB)));(case aL => have := LMc19.out;omega);intro v424 w23 ho hb hg hat;rw [← Ny423.out] at ho;have n0_ := aM (Kd.S_after (ok := (fun k_ => some k_ ≠ (.slice (some ad418) t415.length co13 : Value).ownBlock)) (by exact tP HO_5.out) hg hat);have n1_ := aM (Kd.S_after (ok := (fun k_ => some k_ ≠ (u5 : Value).ownBlock)) (by exact tP HO_23.out) hg hat);have n2_ := aM (Kd.R_after (ok := (fun k_ => some k_ ≠ (u5 : Value).ownBlock ∧ some k_ ≠ (.slice (some ad418) t415.length co13 : Value).ownBlock)) (by exact rP HL418_0.out) hg hat);have n3_ := aM (hb);have n4_ := aM (ho);clear HO_5;clear HO_23;clear HL418_0;clear HB;clear HO422;have HO_5 := n0_;have HO_23 := n1_;have HL418_0 := n2_;have HB := n3_;have HO425 := n4_;clear n0_ n1_ n2_ n3_ n4_;clear ho hb hg hat;obtain ⟨Ao25, co25, eo25⟩ := Kd.R_slice HO425.out;subst eo25) | ((with_reducible refine gate_builtin (b := .append) (xs := #[.tmp 29, .tmp 37]) rfl ?_);at_builtin;refine Kd.S_append (Kd.slice 3 (Kd.int .i64)) (w0 := w) w.heap.size rfl (.tmp 29) (.tmp 37) 26 36 (.slice none 0 0) 24 rfl Tryd.underlying26 info36 rfl (by decide) (by omega) u5 x5_2 y423 [.slice Ao25 y423.length co25] (fun k_ => some k_ ≠ (.slice (some ad418) t415.length co13 : Value).ownBlock) (fun k_ => some k_ = (.slice Ao25 y423.length co25 : Value).ownBlock) rfl rfl ?aP (fun k_ hk_ => ((Kd.R_mono (ok' := fun k_ => ((fun k_ => some k_ ≠ (.slice (some ad418) t415.length co13 : Value).ownBlock)) k_ ∧ some k_ ≠ (u5 : Value).ownBlock) (Kd.R_apart' (Kd.R_apart' (HO425.out) (Kd.S_typed HO_23.out) (by decide)) (Kd.S_typed HO_5.out) (by decide)) (fun k_ hk => ⟨hk.1.2, hk.2⟩))).1 k_ hk_.symm) ?aF ?aO ?aB ?aS ?aL ?_;(case aP => exact Kd.M_row (Kd.R_mono (Kd.R_tight rfl (Kd.R_mono (ok' := fun k_ => ((fun k_ => some k_ ≠ (.slice (some ad418) t415.length co13 : Value).ownBlock)) k_ ∧ some k_ ≠ (u5 : Value).ownBlock) (Kd.R_apart' (Kd.R_apart' (HO425.out) (Kd.S_typed HO_23.out) (by decide)) (Kd.S_typed HO_5.out) (by decide)) (fun k_ hk => ⟨hk.1.2, hk.2⟩))) (fun _ h_ => h_)));(case aB => exact (by exact bB));(case aF => exact (fun k_ hk => Kd.fresh' (Kd.S_lt (by exact tP HO_23.out)) k_ hk));(case aO => exact (by (with_reducible repeat (first | apply Kd.S_alloc | apply Kd.S_drewN | apply Kd.S_drew));exact Kd.S_mono HO_5.out (fun k_ hk => ⟨hk.1, fun e_ => hk.2 e_⟩)));(case aS => exact (below_size (by exact bB)));(case aL => have := LMc20.out;omega);intro v427 w24 ho hb hg hat;rw [← Ny426.out] at ho;have n0_ := aM (Kd.S_after (ok := (fun k_ => some k_ ≠ (.slice Ao25 y423.length co25 : Value).ownBlock)) (by (with_reducible repeat (first | apply Kd.S_alloc | apply Kd.S_drewN | apply Kd.S_drew));exact Kd.S_mono HO_23.out (fun _ hk => ⟨hk.2, hk.1⟩)) hg hat);have n1_ := aM (Kd.R_after (ok := (fun k_ => some k_ ≠ (.slice (some ad418) t415.length co13 : Value).ownBlock ∧ some k_ ≠ (.slice Ao25 y423.length co25 : Value).ownBlock)) (by exact rP (Kd.R_mono HL418_0.out (fun _ hk => ⟨⟨hk.1.2, hk.2⟩, hk.1.1⟩))) hg hat);have n2_ := aM (hb);have n3_ := aM (ho);clear HO_23;clear HL418_0;clear HB;clear HO_5;clear HO425;have HO_23 := n0_;have HL418_0 := n1_;have HB := n2_;have HO428 := n3_;clear n0_ n1_ n2_ n3_;clear ho hb hg hat))
     go_roundg k2
     case measure => have := HK1.out;have := HK2.out;omega
     case rel => exact ⟨(y426), (wrap64 (x25_2 + 1)), eF, H', ⟨by have := HK1.out;have := HK2.out;omega⟩, ⟨by (with_reducible repeat (first | apply Kd.S_alloc | apply Kd.S_drewN | apply Kd.S_drew));exact HO428.out⟩, ⟨by (with_reducible repeat (first | apply Kd.S_alloc | apply Kd.S_drewN | apply Kd.S_drew));exact Kd.S_mono HO_23.out (fun _ hk => hk.2)⟩, ⟨by exact bB⟩⟩


end Go.Proofs.YtgahlimikndecaaDoor.QBestAnswer
