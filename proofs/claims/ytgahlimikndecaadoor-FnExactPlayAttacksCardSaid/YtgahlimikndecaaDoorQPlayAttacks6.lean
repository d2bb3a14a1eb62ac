import Derived.Test.YtgahlimikndecaaDoorQPlayAttacks0
namespace Go.Proofs.YtgahlimikndecaaDoor.QPlayAttacks
open Go.RowKit Go.Proofs.YtgahlimikndecaaDoorW.PrintWords Go.Proofs.YtgahlimikndecaaDoorW.PrintLast Go.Proofs.YtgahlimikndecaaDoorW.PrintMore
attribute [local go_sem] max2_int min2_int max_two min_two max_three min_three max_four min_four
set_option linter.unusedVariables false
set_option linter.unusedSimpArgs false
set_option maxRecDepth 100000
set_option maxHeartbeats 8000000
/-! ### spec_l10Best: function 51 -/
def spec_l10Best.l0 : Nat → List Int → Int → List Int → Int → Option (Int)
 | 0, _, _, _, _ => none
 | k + 1, x1, x9, x10, x11 => if x11 < (x10.length : Int) then (if x9 < 0 then (if 0 ≤ x11 then (spec_l10Best.l0 k x1 (rd x10 x11) x10 (wrap64 (x11 + 1))) else (none)) else (if 0 ≤ x9 then (if x9 < (x1.length : Int) then (if (rd x1 x9) ≥ 0 then (if 0 ≤ x11 then (if 0 ≤ (rd x10 x11) then (if (rd x10 x11) < (x1.length : Int) then (if (rd x1 (rd x10 x11)) < 0 then (spec_l10Best.l0 k x1 (rd x10 x11) x10 (wrap64 (x11 + 1))) else (if (rd x1 (rd x10 x11)) > (rd x1 x9) then (spec_l10Best.l0 k x1 (rd x10 x11) x10 (wrap64 (x11 + 1))) else (spec_l10Best.l0 k x1 x9 x10 (wrap64 (x11 + 1))))) else (none)) else (none)) else (none)) else (spec_l10Best.l0 k x1 x9 x10 (wrap64 (x11 + 1)))) else (none)) else (none))) else (some x9)
def spec_l10Best.f (k : Nat) (l0 : List (List (List Int))) (l1 : List Int) (a2 : Int) (a3 : Int) : Option (Int) := if 0 ≤ a2 then (if a2 < (l0.length : Int) then (if 0 ≤ a3 then (if a3 < ((rd_L3 l0 a2).length : Int) then (spec_l10Best.l0 k l1 (-1) (rd_L2 (rd_L3 l0 a2) a3) 0) else (none)) else (none)) else (none)) else (none)
theorem spec_l10Best.mono_l : ∀ k, (∀ y0 y1 y2 y3, LeO (spec_l10Best.l0 k y0 y1 y2 y3) (spec_l10Best.l0 (k + 1) y0 y1 y2 y3))
 | 0 => fun _ _ _ _ r h => by simp [spec_l10Best.l0] at h
 | k + 1 => by
  have ih0 := spec_l10Best.mono_l k
  ·intro y0 y1 y2 y3
   unfold spec_l10Best.l0
   exact lM
theorem spec_l10Best.mono : ∀ a0 a1 a2 a3 k, LeO (spec_l10Best.f k a0 a1 a2 a3) (spec_l10Best.f (k + 1) a0 a1 a2 a3) := by
 intro a0 a1 a2 a3 k
 have ih0 := spec_l10Best.mono_l k
 unfold spec_l10Best.f
 exact lM
theorem spec_l10Best.calls (k : Nat) (A0 : Option Addr) (c0 : Nat) (l0 : List (List (List Int))) (A1 : Option Addr) (c1 : Nat) (l1 : List Int) (a2 : Int) (a3 : Int) (r : Int) (w : World) (hr0 : Kd.C (Kd.slice 36 (Kd.slice 3 (Kd.int .i64))) w A0 l0.length l0) (hc0 : l0.length ≤ c0) (hr1 : Kd.C (Kd.int .i64) w A1 l1.length l1) (hc1 : l1.length ≤ c1) (h : spec_l10Best.f k l0 l1 a2 a3 = some r) :
  Calls Tryd.prog 51 #[.slice A0 l0.length c0, .slice A1 l1.length c1, .int .i64 a2, .int .i64 a3] w fun e w' => e = .returned (.int .i64 r) ∧ Drawn0 w w' := by
 have HR0 := Aside0.mk hr0
 have HC0 := Aside0.mk hc0
 clear hr0 hc0
 have HR1 := Aside0.mk hr1
 have HC1 := Aside0.mk hc1
 clear hr1 hc1
 have H : (if 0 ≤ a2 then (if a2 < (l0.length : Int) then (if 0 ≤ a3 then (if a3 < ((rd_L3 l0 a2).length : Int) then (spec_l10Best.l0 k l1 (-1) (rd_L2 (rd_L3 l0 a2) a3) 0) else (none)) else (none)) else (none)) else (none)) = some r := h
 clear h
 by_cases c5 : 0 ≤ a2
 rotate_left
 ·rw [if_neg c5] at H
  exact absurd H (by simp)
 rw [if_pos c5] at H
 have c5b0 : decide (0 ≤ a2) = true := decide_eq_true c5
 clear c5
 by_cases c6 : a2 < (l0.length : Int)
 rotate_left
 ·rw [if_neg c6] at H
  exact absurd H (by simp)
 rw [if_pos c6] at H
 have c6b0 : decide (a2 < (l0.length : Int)) = true := decide_eq_true c6
 clear c6
 by_cases c7 : 0 ≤ a3
 rotate_left
 ·rw [if_neg c7] at H
  exact absurd H (by simp)
 rw [if_pos c7] at H
 have c7b0 : decide (0 ≤ a3) = true := decide_eq_true c7
 clear c7
 by_cases c8 : a3 < ((rd_L3 l0 a2).length : Int)
 rotate_left
 ·rw [if_neg c8] at H
  exact absurd H (by simp)
 rw [if_pos c8] at H
 have c8b0 : decide (a3 < ((rd_L3 l0 a2).length : Int)) = true := decide_eq_true c8
 clear c8
 have H' := Aside0.mk H
 clear H
 have p321 : 0 ≤ (a2 : Int) := oA
 have q321 : a2 < (l0.length : Int) := oA
 obtain ⟨ad321, A321_0, c321_0, e321, hx321_0, hl321_0, hi321_0⟩ := at_L3 HR0.out a2 p321 q321
 cases e321
 have HR321_0 := Aside0.mk hi321_0
 have HC321_0 := Aside0.mk hl321_0
 clear hi321_0 hl321_0
 replace p321 := eq_true p321
 replace q321 := eq_true q321
 have p322 : 0 ≤ (a3 : Int) := oA
 have q322 : a3 < ((rd_L3 l0 a2).length : Int) := oA
 obtain ⟨ad322, A322_0, c322_0, e322, hx322_0, hl322_0, hi322_0⟩ := at_L2 HR321_0.out a3 p322 q322
 cases e322
 have HR322_0 := Aside0.mk hi322_0
 have HC322_0 := Aside0.mk hl322_0
 clear hi322_0 hl322_0
 replace p322 := eq_true p322
 replace q322 := eq_true q322
 go_enter Tryd.func51, Tryd.ntmps51
 go_wp2
 repeat (go_quiet (fail);try go_wp2)
 go_loopg [9, 11] k (fun kq v9 v11 w' => ∃ (x9_1 : Int) (x11_1 : Int), v9 = .int .i64 x9_1 ∧ v11 = .int .i64 x11_1 ∧ Aside0 (spec_l10Best.l0 kq l1 x9_1 (rd_L2 (rd_L3 l0 a2) a3) x11_1 = some r) ∧ Aside0 (kq ≤ k) ∧ Drawn0 w w')
 case atStart => exact ⟨((-1)), (0), eF, eF, H', ⟨Nat.le_refl _⟩, dR⟩
 case round =>
  clear H'
  try clear c1
  try clear p2
  try clear c3
  try clear p3
  try clear q3
  try clear hx3
  try clear c5
  try clear c5b0
  try clear c6
  try clear c6b0
  try clear c7
  try clear c7b0
  try clear c8
  try clear c8b0
  try clear hx321_0
  try clear hx322_0
  try clear p321
  try clear p322
  try clear q321
  try clear q322
  obtain ⟨x9_1, x11_1, rfl, rfl, HA, HK1, ⟨m1, rfl⟩⟩ := hrel
  cases gk with
  | zero => exact absurd HA.out (by simp [spec_l10Best.l0])
  | succ k1 =>
   have H := HA.out
   clear HA
   simp only [spec_l10Best.l0] at H
   by_cases c9 : x11_1 < ((rd_L2 (rd_L3 l0 a2) a3).length : Int)
   rotate_left
   ·rw [if_neg c9] at H
    have c9b0 : decide (x11_1 < ((rd_L2 (rd_L3 l0 a2) a3).length : Int)) = false := decide_eq_false c9
    clear c9
    obtain rfl := sI H
    go_wp2
    repeat (go_quiet (fail);try go_wp2)
    go_ret
    exact ⟨eF, dR⟩
   rw [if_pos c9] at H
   have c9b0 : decide (x11_1 < ((rd_L2 (rd_L3 l0 a2) a3).length : Int)) = true := decide_eq_true c9
   clear c9
   by_cases c10 : x9_1 < 0
   ·rw [if_pos c10] at H
    have c10b0 : decide (x9_1 < 0) = true := decide_eq_true c10
    clear c10
    by_cases c11 : 0 ≤ x11_1
    rotate_left
    ·rw [if_neg c11] at H
     exact absurd H (by simp)
    rw [if_pos c11] at H
    have c11b0 : decide (0 ≤ x11_1) = true := decide_eq_true c11
    clear c11
    have H' := Aside0.mk H
    clear H
    have p323 : 0 ≤ (x11_1 : Int) := oA
    have q323 : x11_1 < ((rd_L2 (rd_L3 l0 a2) a3).length : Int) := oA
    obtain ⟨ad323, e323, hx323_0⟩ := Kd.at_int HR322_0.out x11_1 p323 q323
    cases e323
    replace p323 := eq_true p323
    replace q323 := eq_true q323
    go_wp2
    repeat (go_quiet (fail);try go_wp2)
    go_roundg k1
    case measure => have := HK1.out;omega
    case rel => exact ⟨(rd (rd_L2 (rd_L3 l0 a2) a3) x11_1), (wrap64 (x11_1 + 1)), eF, eF, H', ⟨by have := HK1.out;omega⟩, dR⟩
   rw [if_neg c10] at H
   have c10b0 : decide (x9_1 < 0) = false := decide_eq_false c10
   clear c10
   by_cases c12 : 0 ≤ x9_1
   rotate_left
   ·rw [if_neg c12] at H
    exact absurd H (by simp)
   rw [if_pos c12] at H
   have c12b0 : decide (0 ≤ x9_1) = true := decide_eq_true c12
   clear c12
   by_cases c13 : x9_1 < (l1.length : Int)
   rotate_left
   ·rw [if_neg c13] at H
    exact absurd H (by simp)
   rw [if_pos c13] at H
   have c13b0 : decide (x9_1 < (l1.length : Int)) = true := decide_eq_true c13
   clear c13
   by_cases c14 : (rd l1 x9_1) ≥ 0
   rotate_left
   ·rw [if_neg c14] at H
    have c14b0 : decide (0 ≤ (rd l1 x9_1)) = false := decide_eq_false c14
    clear c14
    have H' := Aside0.mk H
    clear H
    have p324 : 0 ≤ (x9_1 : Int) := oA
    have q324 : x9_1 < (l1.length : Int) := oA
    obtain ⟨ad324, e324, hx324_0⟩ := Kd.at_int HR1.out x9_1 p324 q324
    cases e324
    replace p324 := eq_true p324
    replace q324 := eq_true q324
    go_wp2
    repeat (go_quiet (fail);try go_wp2)
    go_roundg k1
    case measure => have := HK1.out;omega
    case rel => exact ⟨(x9_1), (wrap64 (x11_1 + 1)), eF, eF, H', ⟨by have := HK1.out;omega⟩, dR⟩
   rw [if_pos c14] at H
   have c14b0 : decide (0 ≤ (rd l1 x9_1)) = true := decide_eq_true c14
   clear c14
   by_cases c15 : 0 ≤ x11_1
   rotate_left
   ·rw [if_neg c15] at H
    exact absurd H (by simp)
   rw [if_pos c15] at H
   have c15b0 : decide (0 ≤ x11_1) = true := decide_eq_true c15
   clear c15
   by_cases c16 : 0 ≤ (rd (rd_L2 (rd_L3 l0 a2) a3) x11_1)
   rotate_left
   ·rw [if_neg c16] at H
    exact absurd H (by simp)
   rw [if_pos c16] at H
   have c16b0 : decide (0 ≤ (rd (rd_L2 (rd_L3 l0 a2) a3) x11_1)) = true := decide_eq_true c16
   clear c16
   by_cases c17 : (rd (rd_L2 (rd_L3 l0 a2) a3) x11_1) < (l1.length : Int)
   rotate_left
   ·rw [if_neg c17] at H
    exact absurd H (by simp)
   rw [if_pos c17] at H
   have c17b0 : decide ((rd (rd_L2 (rd_L3 l0 a2) a3) x11_1) < (l1.length : Int)) = true := decide_eq_true c17
   clear c17
   by_cases c18 : (rd l1 (rd (rd_L2 (rd_L3 l0 a2) a3) x11_1)) < 0
   ·rw [if_pos c18] at H
    have c18b0 : decide ((rd l1 (rd (rd_L2 (rd_L3 l0 a2) a3) x11_1)) < 0) = true := decide_eq_true c18
    clear c18
    have H' := Aside0.mk H
    clear H
    have p324 : 0 ≤ (x9_1 : Int) := oA
    have q324 : x9_1 < (l1.length : Int) := oA
    obtain ⟨ad324, e324, hx324_0⟩ := Kd.at_int HR1.out x9_1 p324 q324
    cases e324
    replace p324 := eq_true p324
    replace q324 := eq_true q324
    have p325 : 0 ≤ (x11_1 : Int) := oA
    have q325 : x11_1 < ((rd_L2 (rd_L3 l0 a2) a3).length : Int) := oA
    obtain ⟨ad325, e325, hx325_0⟩ := Kd.at_int HR322_0.out x11_1 p325 q325
    cases e325
    replace p325 := eq_true p325
    replace q325 := eq_true q325
    have p326 : 0 ≤ ((rd (rd_L2 (rd_L3 l0 a2) a3) x11_1) : Int) := oA
    have q326 : (rd (rd_L2 (rd_L3 l0 a2) a3) x11_1) < (l1.length : Int) := oA
    obtain ⟨ad326, e326, hx326_0⟩ := Kd.at_int HR1.out (rd (rd_L2 (rd_L3 l0 a2) a3) x11_1) p326 q326
    obtain rfl : ad324 = ad326 := (by injection e326)
    replace p326 := eq_true p326
    replace q326 := eq_true q326
    have p327 : 0 ≤ (x11_1 : Int) := oA
    have q327 : x11_1 < ((rd_L2 (rd_L3 l0 a2) a3).length : Int) := oA
    obtain ⟨ad327, e327, hx327_0⟩ := Kd.at_int HR322_0.out x11_1 p327 q327
    obtain rfl : ad325 = ad327 := (by injection e327)
    replace p327 := eq_true p327
    replace q327 := eq_true q327
    go_wp2
    repeat (go_quiet (fail);try go_wp2)
    go_roundg k1
    case measure => have := HK1.out;omega
    case rel => exact ⟨(rd (rd_L2 (rd_L3 l0 a2) a3) x11_1), (wrap64 (x11_1 + 1)), eF, eF, H', ⟨by have := HK1.out;omega⟩, dR⟩
   rw [if_neg c18] at H
   have c18b0 : decide ((rd l1 (rd (rd_L2 (rd_L3 l0 a2) a3) x11_1)) < 0) = false := decide_eq_false c18
   clear c18
   by_cases c19 : (rd l1 (rd (rd_L2 (rd_L3 l0 a2) a3) x11_1)) > (rd l1 x9_1)
   rotate_left
   ·rw [if_neg c19] at H
    have c19b0 : decide ((rd l1 x9_1) < (rd l1 (rd (rd_L2 (rd_L3 l0 a2) a3) x11_1))) = false := decide_eq_false c19
    clear c19
    have H' := Aside0.mk H
    clear H
    have p324 : 0 ≤ (x9_1 : Int) := oA
    have q324 : x9_1 < (l1.length : Int) := oA
    obtain ⟨ad324, e324, hx324_0⟩ := Kd.at_int HR1.out x9_1 p324 q324
    cases e324
    replace p324 := eq_true p324
    replace q324 := eq_true q324
    have p325 : 0 ≤ (x11_1 : Int) := oA
    have q325 : x11_1 < ((rd_L2 (rd_L3 l0 a2) a3).length : Int) := oA
    obtain ⟨ad325, e325, hx325_0⟩ := Kd.at_int HR322_0.out x11_1 p325 q325
    cases e325
    replace p325 := eq_true p325
    replace q325 := eq_true q325
    have p326 : 0 ≤ ((rd (rd_L2 (rd_L3 l0 a2) a3) x11_1) : Int) := oA
    have q326 : (rd (rd_L2 (rd_L3 l0 a2) a3) x11_1) < (l1.length : Int) := oA
    obtain ⟨ad326, e326, hx326_0⟩ := Kd.at_int HR1.out (rd (rd_L2 (rd_L3 l0 a2) a3) x11_1) p326 q326
    obtain rfl : ad324 = ad326 := (by injection e326)
    replace p326 := eq_true p326
    replace q326 := eq_true q326
    have p328 : 0 ≤ (x11_1 : Int) := oA
    have q328 : x11_1 < ((rd_L2 (rd_L3 l0 a2) a3).length : Int) := oA
    obtain ⟨ad328, e328, hx328_0⟩ := Kd.at_int HR322_0.out x11_1 p328 q328
    obtain rfl : ad325 = ad328 := (by injection e328)
    replace p328 := eq_true p328
    replace q328 := eq_true q328
    have p329 : 0 ≤ ((rd (rd_L2 (rd_L3 l0 a2) a3) x11_1) : Int) := oA
    have q329 : (rd (rd_L2 (rd_L3 l0 a2) a3) x11_1) < (l1.length : Int) := oA
    obtain ⟨ad329, e329, hx329_0⟩ := Kd.at_int HR1.out (rd (rd_L2 (rd_L3 l0 a2) a3) x11_1) p329 q329
    obtain rfl : ad324 = ad329 := (by injection e329)
    replace p329 := eq_true p329
    replace q329 := eq_true q329
    have p330 : 0 ≤ (x9_1 : Int) := oA
    have q330 : x9_1 < (l1.length : Int) := oA
    obtain ⟨ad330, e330, hx330_0⟩ := Kd.at_int HR1.out x9_1 p330 q330
    obtain rfl : ad324 = ad330 := (by injection e330)
    replace p330 := eq_true p330
    replace q330 := eq_true q330
    go_wp2
    repeat (go_quiet (fail);try go_wp2)
    go_roundg k1
    case measure => have := HK1.out;omega
    case rel => exact ⟨(x9_1), (wrap64 (x11_1 + 1)), eF, eF, H', ⟨by have := HK1.out;omega⟩, dR⟩
   rw [if_pos c19] at H
   have c19b0 : decide ((rd l1 x9_1) < (rd l1 (rd (rd_L2 (rd_L3 l0 a2) a3) x11_1))) = true := decide_eq_true c19
   clear c19
   have H' := Aside0.mk H
   clear H
   have p324 : 0 ≤ (x9_1 : Int) := oA
   have q324 : x9_1 < (l1.length : Int) := oA
   obtain ⟨ad324, e324, hx324_0⟩ := Kd.at_int HR1.out x9_1 p324 q324
   cases e324
   replace p324 := eq_true p324
   replace q324 := eq_true q324
   have p325 : 0 ≤ (x11_1 : Int) := oA
   have q325 : x11_1 < ((rd_L2 (rd_L3 l0 a2) a3).length : Int) := oA
   obtain ⟨ad325, e325, hx325_0⟩ := Kd.at_int HR322_0.out x11_1 p325 q325
   cases e325
   replace p325 := eq_true p325
   replace q325 := eq_true q325
   have p326 : 0 ≤ ((rd (rd_L2 (rd_L3 l0 a2) a3) x11_1) : Int) := oA
   have q326 : (rd (rd_L2 (rd_L3 l0 a2) a3) x11_1) < (l1.length : Int) := oA
   obtain ⟨ad326, e326, hx326_0⟩ := Kd.at_int HR1.out (rd (rd_L2 (rd_L3 l0 a2) a3) x11_1) p326 q326
   obtain rfl : ad324 = ad326 := (by injection e326)
   replace p326 := eq_true p326
   replace q326 := eq_true q326
   have p328 : 0 ≤ (x11_1 : Int) := oA
   have q328 : x11_1 < ((rd_L2 (rd_L3 l0 a2) a3).length : Int) := oA
   obtain ⟨ad328, e328, hx328_0⟩ := Kd.at_int HR322_0.out x11_1 p328 q328
   obtain rfl : ad325 = ad328 := (by injection e328)
   replace p328 := eq_true p328
   replace q328 := eq_true q328
   have p329 : 0 ≤ ((rd (rd_L2 (rd_L3 l0 a2) a3) x11_1) : Int) := oA
   have q329 : (rd (rd_L2 (rd_L3 l0 a2) a3) x11_1) < (l1.length : Int) := oA
   obtain ⟨ad329, e329, hx329_0⟩ := Kd.at_int HR1.out (rd (rd_L2 (rd_L3 l0 a2) a3) x11_1) p329 q329
   obtain rfl : ad324 = ad329 := (by injection e329)
   replace p329 := eq_true p329
   replace q329 := eq_true q329
   have p330 : 0 ≤ (x9_1 : Int) := oA
   have q330 : x9_1 < (l1.length : Int) := oA
   obtain ⟨ad330, e330, hx330_0⟩ := Kd.at_int HR1.out x9_1 p330 q330
   obtain rfl : ad324 = ad330 := (by injection e330)
   replace p330 := eq_true p330
   replace q330 := eq_true q330
   have p331 : 0 ≤ (x11_1 : Int) := oA
   have q331 : x11_1 < ((rd_L2 (rd_L3 l0 a2) a3).length : Int) := oA
   obtain ⟨ad331, e331, hx331_0⟩ := Kd.at_int HR322_0.out x11_1 p331 q331
   obtain rfl : ad325 = ad331 := (by injection e331)
   replace p331 := eq_true p331
   replace q331 := eq_true q331
   go_wp2
   repeat (go_quiet (fail);try go_wp2)
   go_roundg k1
   case measure => have := HK1.out;omega
   case rel => exact ⟨(rd (rd_L2 (rd_L3 l0 a2) a3) x11_1), (wrap64 (x11_1 + 1)), eF, eF, H', ⟨by have := HK1.out;omega⟩, dR⟩


end Go.Proofs.YtgahlimikndecaaDoor.QPlayAttacks
