import Derived.Test.YtgahlimikndecaaDoorQBestAnswer0
import Derived.Test.YtgahlimikndecaaDoorQBestAnswer5
import Derived.Test.YtgahlimikndecaaDoorQBestAnswer7
import Derived.Test.YtgahlimikndecaaDoorQBestAnswer8
namespace Go.Proofs.YtgahlimikndecaaDoor.QBestAnswer
open Go.RowKit Go.Proofs.YtgahlimikndecaaDoorW.PrintWords Go.Proofs.YtgahlimikndecaaDoorW.PrintLast Go.Proofs.YtgahlimikndecaaDoorW.PrintMore
attribute [local go_sem] max2_int min2_int max_two min_two max_three min_three max_four min_four   -- for this text's walks alone
set_option linter.unusedVariables false
set_option linter.unusedSimpArgs false
set_option maxRecDepth 100000
set_option maxHeartbeats 8000000
/-! ### slices_BinarySearchFunc_int_int_int: function 78 -/
def slices_BinarySearchFunc_int_int_int.l0 : Nat → List (List Int) → List Int → Int → Int → Int → Option (Int × Bool)
 | 0, _, _, _, _, _ => none
 | k + 1, x0, x1, x8, x9, x10 => if x9 < x10 then (if 0 ≤ (wrap64 ((IntKind.u64.wrap (wrap64 (x9 + x10))) / 2)) then (if (wrap64 ((IntKind.u64.wrap (wrap64 (x9 + x10))) / 2)) < (x0.length : Int) then ((slices_Compare_int_int.f k (rd_L2 x0 (wrap64 ((IntKind.u64.wrap (wrap64 (x9 + x10))) / 2))) x1).bind fun t531 => (if t531 < 0 then (slices_BinarySearchFunc_int_int_int.l0 k x0 x1 x8 (wrap64 ((wrap64 ((IntKind.u64.wrap (wrap64 (x9 + x10))) / 2)) + 1)) x10) else (slices_BinarySearchFunc_int_int_int.l0 k x0 x1 x8 x9 (wrap64 ((IntKind.u64.wrap (wrap64 (x9 + x10))) / 2))))) else (none)) else (none)) else (if x9 < x8 then (if 0 ≤ x9 then (if x9 < (x0.length : Int) then ((slices_Compare_int_int.f k (rd_L2 x0 x9) x1).bind fun t533 => (some (x9, (t533 == 0)))) else (none)) else (none)) else (some (x9, false)))
def slices_BinarySearchFunc_int_int_int.f (k : Nat) (l0 : List (List Int)) (l1 : List Int) : Option (Int × Bool) := slices_BinarySearchFunc_int_int_int.l0 k l0 l1 (l0.length : Int) 0 (l0.length : Int)
theorem slices_BinarySearchFunc_int_int_int.mono_l : ∀ k, (∀ y0 y1 y2 y3 y4, LeO (slices_BinarySearchFunc_int_int_int.l0 k y0 y1 y2 y3 y4) (slices_BinarySearchFunc_int_int_int.l0 (k + 1) y0 y1 y2 y3 y4))
 | 0 => fun _ _ _ _ _ r h => by simp [slices_BinarySearchFunc_int_int_int.l0] at h
 | k + 1 => by
  have ih0 := slices_BinarySearchFunc_int_int_int.mono_l k
  ·intro y0 y1 y2 y3 y4
   unfold slices_BinarySearchFunc_int_int_int.l0
   repeat' first
   | (with_reducible exact ih0 _ _ _ _ _)
   | (with_reducible exact slices_Compare_int_int.mono _ _ _)
   | (with_reducible exact LeO.refl _)
   | (with_reducible exact LeO.none _)
   | (with_reducible refine LeO.ite ?_ ?_)
   | (with_reducible refine LeO.bind ?_ (fun _ => ?_))
   | exact LeO.none _
   | refine LeO.ite ?_ ?_
   | refine LeO.bind ?_ (fun _ => ?_)
theorem slices_BinarySearchFunc_int_int_int.mono : ∀ a0 a1 k, LeO (slices_BinarySearchFunc_int_int_int.f k a0 a1) (slices_BinarySearchFunc_int_int_int.f (k + 1) a0 a1) := by
 intro a0 a1 k
 have ih0 := slices_BinarySearchFunc_int_int_int.mono_l k
 unfold slices_BinarySearchFunc_int_int_int.f
 repeat' first
   | (with_reducible exact ih0 _ _ _ _ _)
   | (with_reducible exact slices_Compare_int_int.mono _ _ _)
   | (with_reducible exact LeO.refl _)
   | (with_reducible exact LeO.none _)
   | (with_reducible refine LeO.ite ?_ ?_)
   | (with_reducible refine LeO.bind ?_ (fun _ => ?_))
   | exact LeO.none _
   | refine LeO.ite ?_ ?_
   | refine LeO.bind ?_ (fun _ => ?_)
theorem slices_BinarySearchFunc_int_int_int.calls (k : Nat) (A0 : Option Addr) (c0 : Nat) (l0 : List (List Int)) (A1 : Option Addr) (c1 : Nat) (l1 : List Int) (r1 : Int) (r2 : Bool) (w : World) (hr0 : Kd.C (Kd.slice 3 (Kd.int .i64)) w A0 l0.length l0) (hc0 : l0.length ≤ c0) (hr1 : Kd.C (Kd.int .i64) w A1 l1.length l1) (hc1 : l1.length ≤ c1) (h : slices_BinarySearchFunc_int_int_int.f k l0 l1 = some (r1, r2)) :
  Calls Tryd.prog 78 #[.slice A0 l0.length c0, .slice A1 l1.length c1, .func (.func 59) #[] #[]] w fun e w' => e = .returned (.tuple #[.int .i64 r1, .bool r2]) ∧ Drawn0 w w' := by
 have HR0 := Aside0.mk hr0
 have HC0 := Aside0.mk hc0
 clear hr0 hc0
 have HR1 := Aside0.mk hr1
 have HC1 := Aside0.mk hc1
 clear hr1 hc1
 have H : (slices_BinarySearchFunc_int_int_int.l0 k l0 l1 (l0.length : Int) 0 (l0.length : Int)) = some (r1, r2) := h
 clear h
 have H' := Aside0.mk H
 clear H
 have eg := enters_of Tryd.func59 (by kernel_rfl) rfl
 go_enter Tryd.func78, Tryd.ntmps78
 go_wp2
 go_loopg [9, 10] k (fun kq v9 v10 w' => ∃ (x9_1 : Int) (x10_1 : Int), v9 = .int .i64 x9_1 ∧ v10 = .int .i64 x10_1 ∧ Aside0 (slices_BinarySearchFunc_int_int_int.l0 kq l0 l1 (l0.length : Int) x9_1 x10_1 = some (r1, r2)) ∧ Aside0 (kq ≤ k) ∧ Drawn0 w w')
 case atStart => exact ⟨(0), ((l0.length : Int)), eF, eF, H', ⟨Nat.le_refl _⟩, dR⟩
 case round =>
  clear H'
  try clear c1
  try clear p2
  obtain ⟨x9_1, x10_1, rfl, rfl, HA, HK1, ⟨m1, rfl⟩⟩ := hrel
  cases gk with
  | zero => exact absurd HA.out (by simp [slices_BinarySearchFunc_int_int_int.l0])
  | succ k1 =>
   have H := HA.out
   clear HA
   simp only [slices_BinarySearchFunc_int_int_int.l0] at H
   by_cases c3 : x9_1 < x10_1
   rotate_left
   ·rw [if_neg c3] at H
    have c3b0 : decide (x9_1 < x10_1) = false := decide_eq_false c3
    clear c3
    by_cases c9 : x9_1 < (l0.length : Int)
    rotate_left
    ·rw [if_neg c9] at H
     have c9b0 : decide (x9_1 < (l0.length : Int)) = false := decide_eq_false c9
     clear c9
     simp only [Option.some.injEq, Prod.mk.injEq] at H
     obtain ⟨rfl, rfl⟩ := H
     go_wp2
     go_ret2
     exact ⟨eF, dR⟩
    rw [if_pos c9] at H
    have c9b0 : decide (x9_1 < (l0.length : Int)) = true := decide_eq_true c9
    clear c9
    by_cases c10 : 0 ≤ x9_1
    rotate_left
    ·rw [if_neg c10] at H
     exact absurd H (by simp)
    rw [if_pos c10] at H
    have c10b0 : decide (0 ≤ x9_1) = true := decide_eq_true c10
    clear c10
    by_cases c11 : x9_1 < (l0.length : Int)
    rotate_left
    ·rw [if_neg c11] at H
     exact absurd H (by simp)
    rw [if_pos c11] at H
    have c11b0 : decide (x9_1 < (l0.length : Int)) = true := decide_eq_true c11
    clear c11
    replace H := Option.bind_eq_some_iff.mp H
    obtain ⟨t533, A120, H⟩ := H
    replace H : (some (x9_1, (t533 == 0))) = some (r1, r2) := H
    have A12 := Aside0.mk A120
    clear A120
    simp only [Option.some.injEq, Prod.mk.injEq] at H
    obtain ⟨rfl, rfl⟩ := H
    have p532 : 0 ≤ (x9_1 : Int) := oA
    have q532 : x9_1 < (l0.length : Int) := oA
    obtain ⟨ad532, A532_0, c532_0, e532, hx532_0, hl532_0, hi532_0⟩ := at_L2 HR0.out x9_1 p532 q532
    cases e532
    have HR532_0 := Aside0.mk hi532_0
    have HC532_0 := Aside0.mk hl532_0
    clear hi532_0 hl532_0
    replace p532 := eq_true p532
    replace q532 := eq_true q532
    go_wp2_with (first | (go_at_call 59;(with_reducible refine (slices_Compare_int_int.calls k1 _ _ (rd_L2 l0 x9_1) _ _ l1 t533 _ ?side1 ?side2 ?side3 ?side4 A12.out).mono ?_);(case side1 => exact cP HR532_0.out);(case side2 => exact HC532_0.out);(case side3 => exact cP HR1.out);(case side4 => exact HC1.out);rintro e w' ⟨rfl, ⟨nd, rfl⟩⟩))
    go_ret2
    exact ⟨eF, dR⟩
   rw [if_pos c3] at H
   have c3b0 : decide (x9_1 < x10_1) = true := decide_eq_true c3
   clear c3
   obtain ⟨ji4, hji4⟩ : ∃ j_ : Int, (wrap64 ((IntKind.u64.wrap (wrap64 (x9_1 + x10_1))) / 2)) = j_ := ⟨_, rfl⟩
   replace H : (if 0 ≤ (ji4) then (if (ji4) < (l0.length : Int) then ((slices_Compare_int_int.f k1 (rd_L2 l0 (ji4)) l1).bind fun t531 => (if t531 < 0 then (slices_BinarySearchFunc_int_int_int.l0 k1 l0 l1 (l0.length : Int) (wrap64 ((ji4) + 1)) x10_1) else (slices_BinarySearchFunc_int_int_int.l0 k1 l0 l1 (l0.length : Int) x9_1 ji4))) else (none)) else (none)) = some (r1, r2) := by first | (rw [hji4] at H;exact H) | (simp only [hji4] at H ⊢;exact H)
   have hji4w : (IntKind.i64.wrap ((IntKind.u64.wrap (wrap64 (x9_1 + x10_1))) / 2)) = ji4 := (i64_w _).trans hji4
   by_cases c5 : 0 ≤ (ji4)
   rotate_left
   ·rw [if_neg c5] at H
    exact absurd H (by simp)
   rw [if_pos c5] at H
   have c5b0 : decide (0 ≤ (ji4)) = true := decide_eq_true c5
   clear c5
   by_cases c6 : (ji4) < (l0.length : Int)
   rotate_left
   ·rw [if_neg c6] at H
    exact absurd H (by simp)
   rw [if_pos c6] at H
   have c6b0 : decide ((ji4) < (l0.length : Int)) = true := decide_eq_true c6
   clear c6
   replace H := Option.bind_eq_some_iff.mp H
   obtain ⟨t531, A70, H⟩ := H
   replace H : (if t531 < 0 then (slices_BinarySearchFunc_int_int_int.l0 k1 l0 l1 (l0.length : Int) (wrap64 ((ji4) + 1)) x10_1) else (slices_BinarySearchFunc_int_int_int.l0 k1 l0 l1 (l0.length : Int) x9_1 ji4)) = some (r1, r2) := H
   have A7 := Aside0.mk A70
   clear A70
   by_cases c8 : t531 < 0
   rotate_left
   ·rw [if_neg c8] at H
    have c8b0 : decide (t531 < 0) = false := decide_eq_false c8
    clear c8
    have H' := Aside0.mk H
    clear H
    have p530 : 0 ≤ ((ji4) : Int) := oA
    have q530 : (ji4) < (l0.length : Int) := oA
    obtain ⟨ad530, A530_0, c530_0, e530, hx530_0, hl530_0, hi530_0⟩ := at_L2 HR0.out (ji4) p530 q530
    cases e530
    have HR530_0 := Aside0.mk hi530_0
    have HC530_0 := Aside0.mk hl530_0
    clear hi530_0 hl530_0
    replace p530 := eq_true p530
    replace q530 := eq_true q530
    go_wp2_with (first | (go_at_call 59;(with_reducible refine (slices_Compare_int_int.calls k1 _ _ (rd_L2 l0 (ji4)) _ _ l1 t531 _ ?side1 ?side2 ?side3 ?side4 A7.out).mono ?_);(case side1 => exact cP HR530_0.out);(case side2 => exact HC530_0.out);(case side3 => exact cP HR1.out);(case side4 => exact HC1.out);rintro e w' ⟨rfl, ⟨nd, rfl⟩⟩))
    go_roundg k1
    case measure => have := HK1.out;omega
    case rel => exact ⟨(x9_1), (ji4), eF, (by first | rfl | (simp;done) | (simp only [← hji4] <;> (first | rfl | simp)) | (simp [*];done)), H', ⟨by have := HK1.out;omega⟩, dR⟩
   rw [if_pos c8] at H
   have c8b0 : decide (t531 < 0) = true := decide_eq_true c8
   clear c8
   have H' := Aside0.mk H
   clear H
   have p530 : 0 ≤ ((ji4) : Int) := oA
   have q530 : (ji4) < (l0.length : Int) := oA
   obtain ⟨ad530, A530_0, c530_0, e530, hx530_0, hl530_0, hi530_0⟩ := at_L2 HR0.out (ji4) p530 q530
   cases e530
   have HR530_0 := Aside0.mk hi530_0
   have HC530_0 := Aside0.mk hl530_0
   clear hi530_0 hl530_0
   replace p530 := eq_true p530
   replace q530 := eq_true q530
   go_wp2_with (first | (go_at_call 59;(with_reducible refine (slices_Compare_int_int.calls k1 _ _ (rd_L2 l0 (ji4)) _ _ l1 t531 _ ?side1 ?side2 ?side3 ?side4 A7.out).mono ?_);(case side1 => exact cP HR530_0.out);(case side2 => exact HC530_0.out);(case side3 => exact cP HR1.out);(case side4 => exact HC1.out);rintro e w' ⟨rfl, ⟨nd, rfl⟩⟩))
   go_roundg k1
   case measure => have := HK1.out;omega
   case rel => exact ⟨(wrap64 ((ji4) + 1)), (x10_1), (by first | rfl | (simp;done) | (simp only [← hji4] <;> (first | rfl | simp)) | (simp [*];done)), eF, H', ⟨by have := HK1.out;omega⟩, dR⟩


/-! ### impl_endless: function 49 -/
def impl_endless.f (a0 : Int) : Option (Int) := if a0 < 0 then (some 1000000) else (some a0)
theorem impl_endless.calls (a0 : Int) (r : Int) (w : World) (h : impl_endless.f a0 = some r) :
  Calls Tryd.prog 49 #[.int .i64 a0] w fun e w' => e = .returned (.int .i64 r) ∧ Drawn0 w w' := by
 have H : (if a0 < 0 then (some 1000000) else (some a0)) = some r := h
 clear h
 by_cases c2 : a0 < 0
 rotate_left
 ·rw [if_neg c2] at H
  have c2b0 : decide (a0 < 0) = false := decide_eq_false c2
  clear c2
  obtain rfl := Option.some.inj H
  go_enter Tryd.func49, Tryd.ntmps49
  go_wp2
  go_ret
  exact ⟨eF, dR⟩
 rw [if_pos c2] at H
 have c2b0 : decide (a0 < 0) = true := decide_eq_true c2
 clear c2
 obtain rfl := Option.some.inj H
 go_enter Tryd.func49, Tryd.ntmps49
 go_wp2
 go_ret
 exact ⟨eF, dR⟩


/-! ### impl_guardGame_bestAnswer: function 54 -/
def impl_guardGame_bestAnswer.l0 : Nat → List Int → Int → List Int → Int → Int → Int → List (List Int) → List (List Int) → Option (Int × Int)
 | 0, _, _, _, _, _, _, _, _ => none
 | k + 1, x1, x9, x15, x16, x17, x1000, x1001, x1002 => if x17 < x16 then (if 0 ≤ x17 then (if x17 < (x15.length : Int) then (if x9 < 0 then (impl_guardGame_bestAnswer.l0 k x1 (rd x15 x17) x15 x16 (wrap64 (x17 + 1)) x1000 x1001 x1002) else (if 0 ≤ (rd x15 x17) then (if (rd x15 x17) < (x1.length : Int) then ((impl_endless.f (rd x1 (rd x15 x17))).bind fun t542 => (if 0 ≤ x9 then (if x9 < (x1.length : Int) then ((impl_endless.f (rd x1 x9)).bind fun t544 => (if t542 > t544 then (impl_guardGame_bestAnswer.l0 k x1 (rd x15 x17) x15 x16 (wrap64 (x17 + 1)) x1000 x1001 x1002) else (impl_guardGame_bestAnswer.l0 k x1 x9 x15 x16 (wrap64 (x17 + 1)) x1000 x1001 x1002))) else (none)) else (none))) else (none)) else (none))) else (none)) else (none)) else (some (x9, x1000))
def impl_guardGame_bestAnswer.f (k : Nat) (s0_0 : Int) (s0_1 : List (List Int)) (s0_2 : List (List Int)) (l1 : List Int) (a2 : Int) (a3 : Int) : Option (Int × Int) := (impl_guardGame_answers.f s0_0 s0_1 s0_2 a2 a3).bind fun bt536 => (impl_guardGame_bestAnswer.l0 k l1 (-1) bt536.1 (bt536.1.length : Int) 0 bt536.2 s0_1 s0_2)
theorem impl_guardGame_bestAnswer.mono_l : ∀ k, (∀ y0 y1 y2 y3 y4 y5 y6 y7, LeO (impl_guardGame_bestAnswer.l0 k y0 y1 y2 y3 y4 y5 y6 y7) (impl_guardGame_bestAnswer.l0 (k + 1) y0 y1 y2 y3 y4 y5 y6 y7))
 | 0 => fun _ _ _ _ _ _ _ _ r h => by simp [impl_guardGame_bestAnswer.l0] at h
 | k + 1 => by
  have ih0 := impl_guardGame_bestAnswer.mono_l k
  ·intro y0 y1 y2 y3 y4 y5 y6 y7
   unfold impl_guardGame_bestAnswer.l0
   repeat' first
   | (with_reducible exact ih0 _ _ _ _ _ _ _ _)
   | (with_reducible exact LeO.refl _)
   | (with_reducible exact LeO.none _)
   | (with_reducible refine LeO.ite ?_ ?_)
   | (with_reducible refine LeO.bind ?_ (fun _ => ?_))
   | exact LeO.none _
   | refine LeO.ite ?_ ?_
   | refine LeO.bind ?_ (fun _ => ?_)
theorem impl_guardGame_bestAnswer.mono : ∀ a0 a1 a2 a3 a4 a5 k, LeO (impl_guardGame_bestAnswer.f k a0 a1 a2 a3 a4 a5) (impl_guardGame_bestAnswer.f (k + 1) a0 a1 a2 a3 a4 a5) := by
 intro a0 a1 a2 a3 a4 a5 k
 have ih0 := impl_guardGame_bestAnswer.mono_l k
 unfold impl_guardGame_bestAnswer.f
 repeat' first
   | (with_reducible exact ih0 _ _ _ _ _ _ _ _)
   | (with_reducible exact LeO.refl _)
   | (with_reducible exact LeO.none _)
   | (with_reducible refine LeO.ite ?_ ?_)
   | (with_reducible refine LeO.bind ?_ (fun _ => ?_))
   | exact LeO.none _
   | refine LeO.ite ?_ ?_
   | refine LeO.bind ?_ (fun _ => ?_)
theorem impl_guardGame_bestAnswer.calls (k : Nat) (g : Nat) (s0_0 : Int) (s0_1 : List (List Int)) (s0_2 : List (List Int)) (A1 : Option Addr) (c1 : Nat) (l1 : List Int) (a2 : Int) (a3 : Int) (r1 : Int) (r2 : Int) (w0 w : World) (hI : IsS61 w0 w g s0_0 s0_1 s0_2) (hB : Below w0.heap.size w0 w) (hr1 : Kd.C (Kd.int .i64) w A1 l1.length l1) (hc1 : l1.length ≤ c1) (hf1 : ∀ ad, A1 = some ad → 0 < l1.length → ad.block ≠ g) (h : impl_guardGame_bestAnswer.f k s0_0 s0_1 s0_2 l1 a2 a3 = some (r1, r2)) :
  Calls Tryd.prog 54 #[.pointer (some ⟨g, 0, none⟩), .slice A1 l1.length c1, .int .i64 a2, .int .i64 a3] w fun e w' => e = .returned (.int .i64 r1) ∧ IsS61 w0 w' g r2 s0_1 s0_2 ∧ Below w0.heap.size w0 w' ∧ KeepBut w w' g none := by
 have HR1 := Aside0.mk hr1
 have HC1 := Aside0.mk hc1
 clear hr1 hc1
 have HI0 := Aside0.mk hI
 have HK := aM (KeepBut.refl w g none)
 have HL := Aside0.mk hB.size
 clear hI
 have HW0 := Aside0.mk hB.size
 have HB := Aside0.mk hB
 clear hB
 have H : ((impl_guardGame_answers.f s0_0 s0_1 s0_2 a2 a3).bind fun bt536 => (impl_guardGame_bestAnswer.l0 k l1 (-1) bt536.1 (bt536.1.length : Int) 0 bt536.2 s0_1 s0_2)) = some (r1, r2) := h
 clear h
 replace H := Option.bind_eq_some_iff.mp H
 obtain ⟨⟨t536, t539⟩, A50, H⟩ := H
 replace H : (impl_guardGame_bestAnswer.l0 k l1 (-1) t536 (t536.length : Int) 0 t539 s0_1 s0_2) = some (r1, r2) := H
 have A5 := Aside0.mk A50
 clear A50
 have H' := Aside0.mk H
 clear H
 go_enter Tryd.func54, Tryd.ntmps54
 go_wp2_with (first | (go_at_call 48;(with_reducible refine (impl_guardGame_answers.calls g s0_0 s0_1 s0_2 a2 a3 t536 t539 w0 _ ?side1 ?side2 A5.out).mono ?_);(case side1 => exact sS);(case side2 => exact bB);rintro e w6 ⟨v537, rfl, ho0, hi, hb, hk⟩;have n0_ := aM (Kd.R_lower ho0 (keep_size (w := w) (g := g) (row := none) (by exact kK)));have n1_ := aM (KeepBut.trans (by exact kK) hk (.inl rfl));have n2_ := aM (hb);have n3_ := aM (hi);clear HK;clear HB;clear HI0;have HO538 := n0_;have HK := n1_;have HB := n2_;have HI0 := n3_;clear n0_ n1_ n2_ n3_;(try clear hb);(try clear hk);(try clear hi);(try clear ho0);obtain ⟨Ao7, co7, eo7⟩ := Kd.R_slice HO538.out;subst eo7))
 repeat (go_quiet (first | (go_at_call 48;(with_reducible refine (impl_guardGame_answers.calls g s0_0 s0_1 s0_2 a2 a3 t536 t539 w0 _ ?side1 ?side2 A5.out).mono ?_);(case side1 => exact sS);(case side2 => exact bB);rintro e w6 ⟨v537, rfl, ho0, hi, hb, hk⟩;have n0_ := aM (Kd.R_lower ho0 (keep_size (w := w) (g := g) (row := none) (by exact kK)));have n1_ := aM (KeepBut.trans (by exact kK) hk (.inl rfl));have n2_ := aM (hb);have n3_ := aM (hi);clear HK;clear HB;clear HI0;have HO538 := n0_;have HK := n1_;have HB := n2_;have HI0 := n3_;clear n0_ n1_ n2_ n3_;(try clear hb);(try clear hk);(try clear hi);(try clear ho0);obtain ⟨Ao7, co7, eo7⟩ := Kd.R_slice HO538.out;subst eo7));try go_wp2_with (first | (go_at_call 48;(with_reducible refine (impl_guardGame_answers.calls g s0_0 s0_1 s0_2 a2 a3 t536 t539 w0 _ ?side1 ?side2 A5.out).mono ?_);(case side1 => exact sS);(case side2 => exact bB);rintro e w6 ⟨v537, rfl, ho0, hi, hb, hk⟩;have n0_ := aM (Kd.R_lower ho0 (keep_size (w := w) (g := g) (row := none) (by exact kK)));have n1_ := aM (KeepBut.trans (by exact kK) hk (.inl rfl));have n2_ := aM (hb);have n3_ := aM (hi);clear HK;clear HB;clear HI0;have HO538 := n0_;have HK := n1_;have HB := n2_;have HI0 := n3_;clear n0_ n1_ n2_ n3_;(try clear hb);(try clear hk);(try clear hi);(try clear ho0);obtain ⟨Ao7, co7, eo7⟩ := Kd.R_slice HO538.out;subst eo7)))
 go_loopg [9, 17] k (fun kq v9 v17 w' => ∃ (x9_1 : Int) (x17_1 : Int), v9 = .int .i64 x9_1 ∧ v17 = .int .i64 x17_1 ∧ Aside0 (impl_guardGame_bestAnswer.l0 kq l1 x9_1 t536 (t536.length : Int) x17_1 t539 s0_1 s0_2 = some (r1, r2)) ∧ Aside0 (kq ≤ k) ∧ Aside0 (Kd.R (Kd.int .i64) 3 w' w.heap.size (fun _ => True) (.slice Ao7 t536.length co7) t536) ∧ Aside0 (IsS61 w0 w' g t539 s0_1 s0_2) ∧ Aside0 (KeepBut w w' g none) ∧ Aside0 (Below w0.heap.size w0 w'))
 case atStart => exact ⟨((-1)), (0), eF, eF, H', ⟨Nat.le_refl _⟩, ⟨by exact rP HO538.out⟩, ⟨by exact sS⟩, ⟨by exact kK⟩, ⟨by exact bB⟩⟩
 case round =>
  clear H'
  try clear c1
  try clear p2
  try clear c5
  obtain ⟨x9_1, x17_1, rfl, rfl, HA, HK1, HO_15, HI0, HK, HB⟩ := hrel
  cases gk with
  | zero => exact absurd HA.out (by simp [impl_guardGame_bestAnswer.l0])
  | succ k1 =>
   have H := HA.out
   clear HA
   simp only [impl_guardGame_bestAnswer.l0] at H
   by_cases c8 : x17_1 < (t536.length : Int)
   rotate_left
   ·rw [if_neg c8] at H
    have c8b0 : decide (x17_1 < (t536.length : Int)) = false := decide_eq_false c8
    clear c8
    simp only [Option.some.injEq, Prod.mk.injEq] at H
    obtain ⟨rfl, rfl⟩ := H
    go_wp2
    repeat (go_quiet (fail);try go_wp2)
    go_ret
    exact ⟨eW, by exact sS, by exact bB, by exact kK⟩
   rw [if_pos c8] at H
   have c8b0 : decide (x17_1 < (t536.length : Int)) = true := decide_eq_true c8
   clear c8
   by_cases c9 : 0 ≤ x17_1
   rotate_left
   ·rw [if_neg c9] at H
    exact absurd H (by simp)
   rw [if_pos c9] at H
   have c9b0 : decide (0 ≤ x17_1) = true := decide_eq_true c9
   clear c9
   by_cases c10 : x17_1 < (t536.length : Int)
   rotate_left
   ·rw [if_neg c10] at H
    exact absurd H (by simp)
   rw [if_pos c10] at H
   have c10b0 : decide (x17_1 < (t536.length : Int)) = true := decide_eq_true c10
   clear c10
   by_cases c11 : x9_1 < 0
   ·rw [if_pos c11] at H
    have c11b0 : decide (x9_1 < 0) = true := decide_eq_true c11
    clear c11
    have H' := Aside0.mk H
    clear H
    have p540 : 0 ≤ (x17_1 : Int) := oA
    have q540 : x17_1 < (t536.length : Int) := oA
    obtain ⟨ad540, e540, hx540_0⟩ := Kd.at_int (Kd.R_reads' HO_15.out).2.2 x17_1 p540 q540
    cases e540
    replace p540 := eq_true p540
    replace q540 := eq_true q540
    go_wp2
    repeat (go_quiet (fail);try go_wp2)
    go_roundg k1
    case measure => have := HK1.out;omega
    case rel => exact ⟨(rd t536 x17_1), (wrap64 (x17_1 + 1)), eF, eF, H', ⟨by have := HK1.out;omega⟩, ⟨by exact rP HO_15.out⟩, ⟨by exact sS⟩, ⟨by exact kK⟩, ⟨by exact bB⟩⟩
   rw [if_neg c11] at H
   have c11b0 : decide (x9_1 < 0) = false := decide_eq_false c11
   clear c11
   by_cases c12 : 0 ≤ (rd t536 x17_1)
   rotate_left
   ·rw [if_neg c12] at H
    exact absurd H (by simp)
   rw [if_pos c12] at H
   have c12b0 : decide (0 ≤ (rd t536 x17_1)) = true := decide_eq_true c12
   clear c12
   by_cases c13 : (rd t536 x17_1) < (l1.length : Int)
   rotate_left
   ·rw [if_neg c13] at H
    exact absurd H (by simp)
   rw [if_pos c13] at H
   have c13b0 : decide ((rd t536 x17_1) < (l1.length : Int)) = true := decide_eq_true c13
   clear c13
   replace H := Option.bind_eq_some_iff.mp H
   obtain ⟨t542, A140, H⟩ := H
   replace H : (if 0 ≤ x9_1 then (if x9_1 < (l1.length : Int) then ((impl_endless.f (rd l1 x9_1)).bind fun t544 => (if t542 > t544 then (impl_guardGame_bestAnswer.l0 k1 l1 (rd t536 x17_1) t536 (t536.length : Int) (wrap64 (x17_1 + 1)) t539 s0_1 s0_2) else (impl_guardGame_bestAnswer.l0 k1 l1 x9_1 t536 (t536.length : Int) (wrap64 (x17_1 + 1)) t539 s0_1 s0_2))) else (none)) else (none)) = some (r1, r2) := H
   have A14 := Aside0.mk A140
   clear A140
   by_cases c15 : 0 ≤ x9_1
   rotate_left
   ·rw [if_neg c15] at H
    exact absurd H (by simp)
   rw [if_pos c15] at H
   have c15b0 : decide (0 ≤ x9_1) = true := decide_eq_true c15
   clear c15
   by_cases c16 : x9_1 < (l1.length : Int)
   rotate_left
   ·rw [if_neg c16] at H
    exact absurd H (by simp)
   rw [if_pos c16] at H
   have c16b0 : decide (x9_1 < (l1.length : Int)) = true := decide_eq_true c16
   clear c16
   replace H := Option.bind_eq_some_iff.mp H
   obtain ⟨t544, A170, H⟩ := H
   replace H : (if t542 > t544 then (impl_guardGame_bestAnswer.l0 k1 l1 (rd t536 x17_1) t536 (t536.length : Int) (wrap64 (x17_1 + 1)) t539 s0_1 s0_2) else (impl_guardGame_bestAnswer.l0 k1 l1 x9_1 t536 (t536.length : Int) (wrap64 (x17_1 + 1)) t539 s0_1 s0_2)) = some (r1, r2) := H
   have A17 := Aside0.mk A170
   clear A170
   by_cases c18 : t542 > t544
   rotate_left
   ·rw [if_neg c18] at H
    have c18b0 : decide (t544 < t542) = false := decide_eq_false c18
    clear c18
    have H' := Aside0.mk H
    clear H
    have p540 : 0 ≤ (x17_1 : Int) := oA
    have q540 : x17_1 < (t536.length : Int) := oA
    obtain ⟨ad540, e540, hx540_0⟩ := Kd.at_int (Kd.R_reads' HO_15.out).2.2 x17_1 p540 q540
    cases e540
    replace p540 := eq_true p540
    replace q540 := eq_true q540
    have p541 : 0 ≤ ((rd t536 x17_1) : Int) := oA
    have q541 : (rd t536 x17_1) < (l1.length : Int) := oA
    obtain ⟨ad541, e541, hx541_0⟩ := Kd.at_int HR1.out (rd t536 x17_1) p541 q541
    cases e541
    replace hx541_0 := keep_cell HK.out hx541_0 (by first | (rw [add_block];exact hf1 _ rfl (by omega)) | exact hf1 _ rfl (by omega) | exact hf1 ad541 rfl (by omega))
    replace p541 := eq_true p541
    replace q541 := eq_true q541
    go_wp2_with (first | (go_at_call 49;(with_reducible refine (impl_endless.calls (rd l1 (rd t536 x17_1)) t542 _ A14.out).mono ?_);rintro e w' ⟨rfl, ⟨nd, rfl⟩⟩;(try first | exact ⟨rfl, _, World.drewN_drewN _ _ _⟩ | exact ⟨rfl, _, Eq.trans (World.drewN_drewN _ _ _) (congrArg (World.drewN _) (Nat.add_assoc _ _ _))⟩);have p543 : 0 ≤ (x9_1 : Int) := oA;have q543 : x9_1 < (l1.length : Int) := oA;obtain ⟨ad543, e543, hx543_0⟩ := Kd.at_int HR1.out x9_1 p543 q543;obtain rfl : ad541 = ad543 := (by injection e543);replace hx543_0 := keep_cell HK.out hx543_0 (by first | (rw [add_block];exact hf1 _ rfl (by omega)) | exact hf1 _ rfl (by omega) | exact hf1 ad541 rfl (by omega));replace p543 := eq_true p543;replace q543 := eq_true q543) | (go_at_call 49;(with_reducible refine (impl_endless.calls (rd l1 x9_1) t544 _ A17.out).mono ?_);rintro e w' ⟨rfl, ⟨nd, rfl⟩⟩;(try first | exact ⟨rfl, _, World.drewN_drewN _ _ _⟩ | exact ⟨rfl, _, Eq.trans (World.drewN_drewN _ _ _) (congrArg (World.drewN _) (Nat.add_assoc _ _ _))⟩)))
    repeat (go_quiet (first | (go_at_call 49;(with_reducible refine (impl_endless.calls (rd l1 (rd t536 x17_1)) t542 _ A14.out).mono ?_);rintro e w' ⟨rfl, ⟨nd, rfl⟩⟩;(try first | exact ⟨rfl, _, World.drewN_drewN _ _ _⟩ | exact ⟨rfl, _, Eq.trans (World.drewN_drewN _ _ _) (congrArg (World.drewN _) (Nat.add_assoc _ _ _))⟩);have p543 : 0 ≤ (x9_1 : Int) := oA;have q543 : x9_1 < (l1.length : Int) := oA;obtain ⟨ad543, e543, hx543_0⟩ := Kd.at_int HR1.out x9_1 p543 q543;obtain rfl : ad541 = ad543 := (by injection e543);replace hx543_0 := keep_cell HK.out hx543_0 (by first | (rw [add_block];exact hf1 _ rfl (by omega)) | exact hf1 _ rfl (by omega) | exact hf1 ad541 rfl (by omega));replace p543 := eq_true p543;replace q543 := eq_true q543) | (go_at_call 49;(with_reducible refine (impl_endless.calls (rd l1 x9_1) t544 _ A17.out).mono ?_);rintro e w' ⟨rfl, ⟨nd, rfl⟩⟩;(try first | exact ⟨rfl, _, World.drewN_drewN _ _ _⟩ | exact ⟨rfl, _, Eq.trans (World.drewN_drewN _ _ _) (congrArg (World.drewN _) (Nat.add_assoc _ _ _))⟩)));try go_wp2_with (first | (go_at_call 49;(with_reducible refine (impl_endless.calls (rd l1 (rd t536 x17_1)) t542 _ A14.out).mono ?_);rintro e w' ⟨rfl, ⟨nd, rfl⟩⟩;(try first | exact ⟨rfl, _, World.drewN_drewN _ _ _⟩ | exact ⟨rfl, _, Eq.trans (World.drewN_drewN _ _ _) (congrArg (World.drewN _) (Nat.add_assoc _ _ _))⟩);have p543 : 0 ≤ (x9_1 : Int) := oA;have q543 : x9_1 < (l1.length : Int) := oA;obtain ⟨ad543, e543, hx543_0⟩ := Kd.at_int HR1.out x9_1 p543 q543;obtain rfl : ad541 = ad543 := (by injection e543);replace hx543_0 := keep_cell HK.out hx543_0 (by first | (rw [add_block];exact hf1 _ rfl (by omega)) | exact hf1 _ rfl (by omega) | exact hf1 ad541 rfl (by omega));replace p543 := eq_true p543;replace q543 := eq_true q543) | (go_at_call 49;(with_reducible refine (impl_endless.calls (rd l1 x9_1) t544 _ A17.out).mono ?_);rintro e w' ⟨rfl, ⟨nd, rfl⟩⟩;(try first | exact ⟨rfl, _, World.drewN_drewN _ _ _⟩ | exact ⟨rfl, _, Eq.trans (World.drewN_drewN _ _ _) (congrArg (World.drewN _) (Nat.add_assoc _ _ _))⟩))))
    go_roundg k1
    case measure => have := HK1.out;omega
    case rel => exact ⟨(x9_1), (wrap64 (x17_1 + 1)), eF, eF, H', ⟨by have := HK1.out;omega⟩, ⟨by exact rP HO_15.out⟩, ⟨by exact sS⟩, ⟨by exact kK⟩, ⟨by exact bB⟩⟩
   rw [if_pos c18] at H
   have c18b0 : decide (t544 < t542) = true := decide_eq_true c18
   clear c18
   have H' := Aside0.mk H
   clear H
   have p540 : 0 ≤ (x17_1 : Int) := oA
   have q540 : x17_1 < (t536.length : Int) := oA
   obtain ⟨ad540, e540, hx540_0⟩ := Kd.at_int (Kd.R_reads' HO_15.out).2.2 x17_1 p540 q540
   cases e540
   replace p540 := eq_true p540
   replace q540 := eq_true q540
   have p541 : 0 ≤ ((rd t536 x17_1) : Int) := oA
   have q541 : (rd t536 x17_1) < (l1.length : Int) := oA
   obtain ⟨ad541, e541, hx541_0⟩ := Kd.at_int HR1.out (rd t536 x17_1) p541 q541
   cases e541
   replace hx541_0 := keep_cell HK.out hx541_0 (by first | (rw [add_block];exact hf1 _ rfl (by omega)) | exact hf1 _ rfl (by omega) | exact hf1 ad541 rfl (by omega))
   replace p541 := eq_true p541
   replace q541 := eq_true q541
   go_wp2_with (first | (go_at_call 49;(with_reducible refine (impl_endless.calls (rd l1 (rd t536 x17_1)) t542 _ A14.out).mono ?_);rintro e w' ⟨rfl, ⟨nd, rfl⟩⟩;(try first | exact ⟨rfl, _, World.drewN_drewN _ _ _⟩ | exact ⟨rfl, _, Eq.trans (World.drewN_drewN _ _ _) (congrArg (World.drewN _) (Nat.add_assoc _ _ _))⟩);have p543 : 0 ≤ (x9_1 : Int) := oA;have q543 : x9_1 < (l1.length : Int) := oA;obtain ⟨ad543, e543, hx543_0⟩ := Kd.at_int HR1.out x9_1 p543 q543;obtain rfl : ad541 = ad543 := (by injection e543);replace hx543_0 := keep_cell HK.out hx543_0 (by first | (rw [add_block];exact hf1 _ rfl (by omega)) | exact hf1 _ rfl (by omega) | exact hf1 ad541 rfl (by omega));replace p543 := eq_true p543;replace q543 := eq_true q543) | (go_at_call 49;(with_reducible refine (impl_endless.calls (rd l1 x9_1) t544 _ A17.out).mono ?_);rintro e w' ⟨rfl, ⟨nd, rfl⟩⟩;(try first | exact ⟨rfl, _, World.drewN_drewN _ _ _⟩ | exact ⟨rfl, _, Eq.trans (World.drewN_drewN _ _ _) (congrArg (World.drewN _) (Nat.add_assoc _ _ _))⟩)))
   repeat (go_quiet (first | (go_at_call 49;(with_reducible refine (impl_endless.calls (rd l1 (rd t536 x17_1)) t542 _ A14.out).mono ?_);rintro e w' ⟨rfl, ⟨nd, rfl⟩⟩;(try first | exact ⟨rfl, _, World.drewN_drewN _ _ _⟩ | exact ⟨rfl, _, Eq.trans (World.drewN_drewN _ _ _) (congrArg (World.drewN _) (Nat.add_assoc _ _ _))⟩);have p543 : 0 ≤ (x9_1 : Int) := oA;have q543 : x9_1 < (l1.length : Int) := oA;obtain ⟨ad543, e543, hx543_0⟩ := Kd.at_int HR1.out x9_1 p543 q543;obtain rfl : ad541 = ad543 := (by injection e543);replace hx543_0 := keep_cell HK.out hx543_0 (by first | (rw [add_block];exact hf1 _ rfl (by omega)) | exact hf1 _ rfl (by omega) | exact hf1 ad541 rfl (by omega));replace p543 := eq_true p543;replace q543 := eq_true q543) | (go_at_call 49;(with_reducible refine (impl_endless.calls (rd l1 x9_1) t544 _ A17.out).mono ?_);rintro e w' ⟨rfl, ⟨nd, rfl⟩⟩;(try first | exact ⟨rfl, _, World.drewN_drewN _ _ _⟩ | exact ⟨rfl, _, Eq.trans (World.drewN_drewN _ _ _) (congrArg (World.drewN _) (Nat.add_assoc _ _ _))⟩)));try go_wp2_with (first | (go_at_call 49;(with_reducible refine (impl_endless.calls (rd l1 (rd t536 x17_1)) t542 _ A14.out).mono ?_);rintro e w' ⟨rfl, ⟨nd, rfl⟩⟩;(try first | exact ⟨rfl, _, World.drewN_drewN _ _ _⟩ | exact ⟨rfl, _, Eq.trans (World.drewN_drewN _ _ _) (congrArg (World.drewN _) (Nat.add_assoc _ _ _))⟩);have p543 : 0 ≤ (x9_1 : Int) := oA;have q543 : x9_1 < (l1.length : Int) := oA;obtain ⟨ad543, e543, hx543_0⟩ := Kd.at_int HR1.out x9_1 p543 q543;obtain rfl : ad541 = ad543 := (by injection e543);replace hx543_0 := keep_cell HK.out hx543_0 (by first | (rw [add_block];exact hf1 _ rfl (by omega)) | exact hf1 _ rfl (by omega) | exact hf1 ad541 rfl (by omega));replace p543 := eq_true p543;replace q543 := eq_true q543) | (go_at_call 49;(with_reducible refine (impl_endless.calls (rd l1 x9_1) t544 _ A17.out).mono ?_);rintro e w' ⟨rfl, ⟨nd, rfl⟩⟩;(try first | exact ⟨rfl, _, World.drewN_drewN _ _ _⟩ | exact ⟨rfl, _, Eq.trans (World.drewN_drewN _ _ _) (congrArg (World.drewN _) (Nat.add_assoc _ _ _))⟩))))
   go_roundg k1
   case measure => have := HK1.out;omega
   case rel => exact ⟨(rd t536 x17_1), (wrap64 (x17_1 + 1)), eF, eF, H', ⟨by have := HK1.out;omega⟩, ⟨by exact rP HO_15.out⟩, ⟨by exact sS⟩, ⟨by exact kK⟩, ⟨by exact bB⟩⟩


/-! ### impl_valResist: by hand -/
def impl_valResist.f (k : Nat) (n : Int) (s m : List (List Int)) : Option (List Int) := (impl_guardGame_resist.f k n s m).bind fun r => some r.1
theorem impl_valResist.mono : ∀ a0 a1 a2 k, LeO (impl_valResist.f k a0 a1 a2) (impl_valResist.f (k + 1) a0 a1 a2) := by
 intro a0 a1 a2 k
 unfold impl_valResist.f
 exact LeO.bind (impl_guardGame_resist.mono _ _ _ _) (fun r => LeO.refl _)
theorem impl_valResist.calls (gb k : Nat) (n : Int) (A1 : Option Addr) (c1 : Nat) (s : List (List Int)) (A2 : Option Addr) (c2 : Nat) (m : List (List Int)) (r : List Int) (w : World) (hr1 : Kd.C (Kd.slice 3 (Kd.int .i64)) w A1 s.length s) (_hc1 : s.length ≤ c1) (hr2 : Kd.C (Kd.slice 3 (Kd.int .i64)) w A2 m.length m) (_hc2 : m.length ≤ c2) (h : impl_valResist.f k n s m = some r) (hbx : w.heap[gb]? = some (.cells #[.int .i64 n, .slice A1 s.length c1, .slice A2 m.length c2] 61 (0, 0))) :
  Calls Tryd.prog 34 #[.pointer (some ⟨gb, 0, none⟩)] w fun e w' => ∃ v0_ : Value, e = .returned v0_ ∧ Kd.R (Kd.int .i64) 3 w' w.heap.size (fun _ => True) v0_ r ∧ Below w.heap.size w w' := by
 unfold impl_valResist.f at h
 obtain ⟨⟨r1, r2⟩, h1, h2⟩ := Option.bind_eq_some_iff.1 h
 obtain rfl := Option.some.inj h2
 refine (impl_guardGame_resist.calls k gb n s m r1 r2 w w ⟨A1, c1, A2, c2, hbx, trivial, hr1, hr2⟩ (Below.refl _ _) h1).mono ?_
 rintro e w' ⟨v, rfl, hR, _, hB, _⟩
 exact ⟨v, rfl, hR, hB⟩

/-! ### laws_heldIntS: function 23 -/
def laws_heldIntS.l0 : Nat → List Int → Int → Int → Option (Int)
 | 0, _, _, _ => none
 | k + 1, x0, x1, x5 => if x5 < (x0.length : Int) then (if 0 ≤ x5 then (if (rd x0 x5) = x1 then (laws_heldIntS.l0 k x0 (wrap64 (x1 + 1)) (wrap64 (x5 + 1))) else (some (-1))) else (none)) else (some x1)
def laws_heldIntS.f (k : Nat) (l0 : List Int) (a1 : Int) : Option (Int) := laws_heldIntS.l0 k l0 a1 0
theorem laws_heldIntS.mono_l : ∀ k, (∀ y0 y1 y2, LeO (laws_heldIntS.l0 k y0 y1 y2) (laws_heldIntS.l0 (k + 1) y0 y1 y2))
 | 0 => fun _ _ _ r h => by simp [laws_heldIntS.l0] at h
 | k + 1 => by
  have ih0 := laws_heldIntS.mono_l k
  ·intro y0 y1 y2
   unfold laws_heldIntS.l0
   repeat' first
   | (with_reducible exact ih0 _ _ _)
   | (with_reducible exact LeO.refl _)
   | (with_reducible exact LeO.none _)
   | (with_reducible refine LeO.ite ?_ ?_)
   | (with_reducible refine LeO.bind ?_ (fun _ => ?_))
   | exact LeO.none _
   | refine LeO.ite ?_ ?_
   | refine LeO.bind ?_ (fun _ => ?_)
theorem laws_heldIntS.mono : ∀ a0 a1 k, LeO (laws_heldIntS.f k a0 a1) (laws_heldIntS.f (k + 1) a0 a1) := by
 intro a0 a1 k
 have ih0 := laws_heldIntS.mono_l k
 unfold laws_heldIntS.f
 repeat' first
   | (with_reducible exact ih0 _ _ _)
   | (with_reducible exact LeO.refl _)
   | (with_reducible exact LeO.none _)
   | (with_reducible refine LeO.ite ?_ ?_)
   | (with_reducible refine LeO.bind ?_ (fun _ => ?_))
   | exact LeO.none _
   | refine LeO.ite ?_ ?_
   | refine LeO.bind ?_ (fun _ => ?_)
theorem laws_heldIntS.calls (k : Nat) (A0 : Option Addr) (c0 : Nat) (l0 : List Int) (a1 : Int) (r : Int) (w : World) (hr0 : Kd.C (Kd.int .i64) w A0 l0.length l0) (hc0 : l0.length ≤ c0) (h : laws_heldIntS.f k l0 a1 = some r) :
  Calls Tryd.prog 23 #[.slice A0 l0.length c0, .int .i64 a1] w fun e w' => e = .returned (.int .i64 r) ∧ Drawn0 w w' := by
 have HR0 := Aside0.mk hr0
 have HC0 := Aside0.mk hc0
 clear hr0 hc0
 have H : (laws_heldIntS.l0 k l0 a1 0) = some r := h
 clear h
 have H' := Aside0.mk H
 clear H
 go_enter Tryd.func23, Tryd.ntmps23
 go_wp2
 go_loopg [1, 5] k (fun kq v1 v5 w' => ∃ (x1_1 : Int) (x5_1 : Int), v1 = .int .i64 x1_1 ∧ v5 = .int .i64 x5_1 ∧ Aside0 (laws_heldIntS.l0 kq l0 x1_1 x5_1 = some r) ∧ Aside0 (kq ≤ k) ∧ Drawn0 w w')
 case atStart => exact ⟨(a1), (0), eF, eF, H', ⟨Nat.le_refl _⟩, dR⟩
 case round =>
  clear H'
  try clear c2
  try clear p2
  obtain ⟨x1_1, x5_1, rfl, rfl, HA, HK1, ⟨m1, rfl⟩⟩ := hrel
  cases gk with
  | zero => exact absurd HA.out (by simp [laws_heldIntS.l0])
  | succ k1 =>
   have H := HA.out
   clear HA
   simp only [laws_heldIntS.l0] at H
   by_cases c3 : x5_1 < (l0.length : Int)
   rotate_left
   ·rw [if_neg c3] at H
    have c3b0 : decide (x5_1 < (l0.length : Int)) = false := decide_eq_false c3
    clear c3
    obtain rfl := Option.some.inj H
    go_wp2
    go_ret
    exact ⟨eF, dR⟩
   rw [if_pos c3] at H
   have c3b0 : decide (x5_1 < (l0.length : Int)) = true := decide_eq_true c3
   clear c3
   by_cases c4 : 0 ≤ x5_1
   rotate_left
   ·rw [if_neg c4] at H
    exact absurd H (by simp)
   rw [if_pos c4] at H
   have c4b0 : decide (0 ≤ x5_1) = true := decide_eq_true c4
   clear c4
   by_cases c5 : (rd l0 x5_1) = x1_1
   rotate_left
   ·rw [if_neg c5] at H
    have c5b0 : ((rd l0 x5_1) == x1_1) = false := beq_eq_false_iff_ne.mpr c5
    have c5b1 : ((rd l0 x5_1) != x1_1) = true := bne_iff_ne.mpr c5
    obtain rfl := Option.some.inj H
    have p590 : 0 ≤ (x5_1 : Int) := oA
    have q590 : x5_1 < (l0.length : Int) := oA
    obtain ⟨ad590, e590, hx590_0⟩ := Kd.at_int HR0.out x5_1 p590 q590
    cases e590
    replace p590 := eq_true p590
    replace q590 := eq_true q590
    go_wp2
    go_ret
    exact ⟨eF, dR⟩
   rw [if_pos c5] at H
   have c5b0 : ((rd l0 x5_1) == x1_1) = true := beq_iff_eq.mpr c5
   have c5b1 : ((rd l0 x5_1) != x1_1) = false := bne_eq_false_iff_eq.mpr c5
   clear c5
   have H' := Aside0.mk H
   clear H
   have p590 : 0 ≤ (x5_1 : Int) := oA
   have q590 : x5_1 < (l0.length : Int) := oA
   obtain ⟨ad590, e590, hx590_0⟩ := Kd.at_int HR0.out x5_1 p590 q590
   cases e590
   replace p590 := eq_true p590
   replace q590 := eq_true q590
   go_wp2
   go_roundg k1
   case measure => have := HK1.out;omega
   case rel => exact ⟨(wrap64 (x1_1 + 1)), (wrap64 (x5_1 + 1)), eF, eF, H', ⟨by have := HK1.out;omega⟩, dR⟩


/-! ### laws_markIntS: function 22 -/
def laws_markIntS.l0 : Nat → List Int → Int → Int → Option (Int × List Int)
 | 0, _, _, _ => none
 | k + 1, x0, x1, x5 => if x5 < (x0.length : Int) then (if 0 ≤ x5 then (laws_markIntS.l0 k (x0.set (x5 : Int).toNat x1) (wrap64 (x1 + 1)) (wrap64 (x5 + 1))) else (none)) else (some (x1, x0))
def laws_markIntS.f (k : Nat) (l0 : List Int) (a1 : Int) : Option (Int × List Int) := laws_markIntS.l0 k l0 a1 0
theorem laws_markIntS.mono_l : ∀ k, (∀ y0 y1 y2, LeO (laws_markIntS.l0 k y0 y1 y2) (laws_markIntS.l0 (k + 1) y0 y1 y2))
 | 0 => fun _ _ _ r h => by simp [laws_markIntS.l0] at h
 | k + 1 => by
  have ih0 := laws_markIntS.mono_l k
  ·intro y0 y1 y2
   unfold laws_markIntS.l0
   repeat' first
   | (with_reducible exact ih0 _ _ _)
   | (with_reducible exact LeO.refl _)
   | (with_reducible exact LeO.none _)
   | (with_reducible refine LeO.ite ?_ ?_)
   | (with_reducible refine LeO.bind ?_ (fun _ => ?_))
   | exact LeO.none _
   | refine LeO.ite ?_ ?_
   | refine LeO.bind ?_ (fun _ => ?_)
theorem laws_markIntS.mono : ∀ a0 a1 k, LeO (laws_markIntS.f k a0 a1) (laws_markIntS.f (k + 1) a0 a1) := by
 intro a0 a1 k
 have ih0 := laws_markIntS.mono_l k
 unfold laws_markIntS.f
 repeat' first
   | (with_reducible exact ih0 _ _ _)
   | (with_reducible exact LeO.refl _)
   | (with_reducible exact LeO.none _)
   | (with_reducible refine LeO.ite ?_ ?_)
   | (with_reducible refine LeO.bind ?_ (fun _ => ?_))
   | exact LeO.none _
   | refine LeO.ite ?_ ?_
   | refine LeO.bind ?_ (fun _ => ?_)
theorem laws_markIntS.calls (k : Nat) (P0_ : Nat → Prop) (u9000_ : Value) (l0 : List Int) (a1 : Int) (r1 : Int) (r2 : List Int) (w0 w : World) (hB : Below w0.heap.size w0 w) (ho0 : Kd.R (Kd.int .i64) 3 w w0.heap.size P0_ u9000_ l0) (h : laws_markIntS.f k l0 a1 = some (r1, r2)) :
  Calls Tryd.prog 22 #[u9000_, .int .i64 a1] w fun e w' => e = .returned (.int .i64 r1) ∧ Kd.R (Kd.int .i64) 3 w' w0.heap.size (fun k_ => (P0_ k_ ∨ w.heap.size ≤ k_)) u9000_ r2 ∧ Below w0.heap.size w0 w' ∧ Kept w w' (fun k_ => P0_ k_) := by
 have HO0 := aM (show Kd.R (Kd.int .i64) 3 w w0.heap.size (fun k_ => (P0_ k_ ∨ w.heap.size ≤ k_)) u9000_ l0 from Kd.R_mono ho0 (fun k_ hk => (.inl hk)))
 have HK := aM (Kept.refl w (fun k_ => P0_ k_))
 have HW0 := Aside0.mk hB.size
 have HB := Aside0.mk hB
 clear hB
 have H : (laws_markIntS.l0 k l0 a1 0) = some (r1, r2) := h
 clear h
 have H' := Aside0.mk H
 clear H
 go_enter Tryd.func22, Tryd.ntmps22
 go_wp2
 go_loopg [1, 5] k (fun kq v1 v5 w' => ∃ (x0_1 : List Int) (x1_1 : Int) (x5_1 : Int), v1 = .int .i64 x1_1 ∧ v5 = .int .i64 x5_1 ∧ Aside0 (laws_markIntS.l0 kq x0_1 x1_1 x5_1 = some (r1, r2)) ∧ Aside0 (kq ≤ k) ∧ Aside0 (Kd.R (Kd.int .i64) 3 w' w0.heap.size (fun k_ => (P0_ k_ ∨ w.heap.size ≤ k_)) u9000_ x0_1) ∧ Aside0 (Kept w w' (fun k_ => P0_ k_)) ∧ Aside0 (Below w0.heap.size w0 w'))
 case atStart => exact ⟨(l0), (a1), (0), eF, eF, H', ⟨Nat.le_refl _⟩, ⟨by exact rP HO0.out⟩, ⟨by exact kE⟩, ⟨by exact bB⟩⟩
 case round =>
  clear H'
  try clear c2
  try clear p2
  obtain ⟨x0_1, x1_1, x5_1, rfl, rfl, HA, HK1, HO_0, HK, HB⟩ := hrel
  cases gk with
  | zero => exact absurd HA.out (by simp [laws_markIntS.l0])
  | succ k1 =>
   have H := HA.out
   clear HA
   simp only [laws_markIntS.l0] at H
   by_cases c3 : x5_1 < (x0_1.length : Int)
   rotate_left
   ·rw [if_neg c3] at H
    have c3b0 : decide (x5_1 < (x0_1.length : Int)) = false := decide_eq_false c3
    clear c3
    simp only [Option.some.injEq, Prod.mk.injEq] at H
    obtain ⟨rfl, rfl⟩ := H
    obtain ⟨Ao9, co9, eo9⟩ := Kd.R_slice HO_0.out
    subst eo9
    go_wp2
    go_ret
    exact ⟨eW, by exact rP HO_0.out, by exact bB, by exact kE⟩
   rw [if_pos c3] at H
   have c3b0 : decide (x5_1 < (x0_1.length : Int)) = true := decide_eq_true c3
   clear c3
   by_cases c4 : 0 ≤ x5_1
   rotate_left
   ·rw [if_neg c4] at H
    exact absurd H (by simp)
   rw [if_pos c4] at H
   have c4b0 : decide (0 ≤ x5_1) = true := decide_eq_true c4
   clear c4
   obtain ⟨y593, hy593⟩ : ∃ y_ : List Int, y_ = (x0_1.set (x5_1 : Int).toNat x1_1) := ⟨_, rfl⟩
   replace H : (laws_markIntS.l0 k1 y593 (wrap64 (x1_1 + 1)) (wrap64 (x5_1 + 1))) = some (r1, r2) := by first | (rw [hy593];with_reducible exact H) | (have H2_ := (Option.bind_some _ _).symm.trans H;rw [hy593];with_reducible exact H2_) | (have H2_ := (Option.bind_some _ _).symm.trans H;with_reducible exact H2_) | with_reducible exact H | (rw [hy593];exact H) | exact H
   have Ny593 := Aside0.mk hy593
   clear hy593
   have H' := Aside0.mk H
   clear H
   obtain ⟨Ao6, co6, eo6⟩ := Kd.R_slice HO_0.out
   subst eo6
   have p5 : 0 ≤ (x5_1 : Int) := oA
   have q5 : (x5_1 : Int) < ((x0_1.length : Int) : Int) := oA
   obtain ⟨go5, co5, eo5, gb5, gl5, cl5, HG5⟩ := Kd.R_form HO_0.out (by omega)
   (first | cases eo5 | (injection eo5 with ea_ en_ ec_;(first | subst ea_ | (injection ea_ with ea_;subst ea_));subst ec_;clear en_))
   have GB5 := Aside0.mk gb5
   have GG5 := Aside0.mk HG5
   clear gb5 gl5 HG5
   have HMgo5 := aM (show (P0_ go5 ∨ w.heap.size ≤ go5) from (HO_0.out.1 _ rfl))
   obtain ⟨hx5_0, hf5_0⟩ := Kd.R_celln 0 HO_0.out (x5_1 : Int) p5 q5
   replace p5 := eq_true p5
   replace q5 := eq_true q5
   have HP7 := Kd.R_putg HO_0.out (x5_1 : Int) x1_1
   go_wp2_with (first | ((with_reducible refine gate_store (t := 3) (p := 15) rfl ?_);refine store_event (t := 3) (p := 15) (v := ?vo_w8) (w1 := (wr.setCell ⟨go5, (x5_1 : Int).toNat, none⟩ (.int .i64 x1_1))) ?hg ?ho ?hn ?hr ?_;(case ho => rfl);(case hg => rfl);(case hn => rfl);(case hr => exact gS);intro w8 hw;have hg : wr.grownBy w8 (some go5) := (by rw [hw];exact HP7.2);have hp_ : Kd.R (Kd.int .i64) 3 w8 w0.heap.size (fun k_ => (P0_ k_ ∨ w.heap.size ≤ k_)) (.slice (some ⟨go5, 0, none⟩) x0_1.length co6) y593 := (by rw [hw, Ny593.out];exact HP7.1);clear HP7;have n0_ := aM (hp_);have n1_ := aM ((by rw [hw];exact below_set (HB.out) GB5.out : Below w0.heap.size w0 w8));have n2_ := aM (Kept.of_grown (S := (fun k_ => P0_ k_)) hg (by exact kE) (fun k_ e_ => (HO_0.out.1 k_ e_)));clear HO_0;clear HB;clear HK;have HO_0 := n0_;have HB := n1_;have HK := n2_;clear n0_ n1_ n2_;clear hg hw hp_))
   go_roundg k1
   case measure => have := HK1.out;omega
   case rel => exact ⟨(y593), (wrap64 (x1_1 + 1)), (wrap64 (x5_1 + 1)), eF, eF, H', ⟨by have := HK1.out;omega⟩, ⟨by exact rP HO_0.out⟩, ⟨by exact kE⟩, ⟨by exact bB⟩⟩


/-! ### impl_valPlace: by hand -/
def impl_valPlace.f (k : Nat) (_n : Int) (s _m : List (List Int)) (l : List Int) : Option Int := (slices_BinarySearchFunc_int_int_int.f k s l).bind fun r => some r.1
theorem impl_valPlace.mono : ∀ a0 a1 a2 a3 k, LeO (impl_valPlace.f k a0 a1 a2 a3) (impl_valPlace.f (k + 1) a0 a1 a2 a3) := by
 intro a0 a1 a2 a3 k
 unfold impl_valPlace.f
 exact LeO.bind (slices_BinarySearchFunc_int_int_int.mono _ _ _) (fun r => LeO.refl _)
theorem impl_valPlace.calls (gb k : Nat) (n : Int) (A1 : Option Addr) (c1 : Nat) (s : List (List Int)) (A2 : Option Addr) (c2 : Nat) (m : List (List Int)) (A : Option Addr) (c : Nat) (l : List Int) (r : Int) (w : World) (hr1 : Kd.C (Kd.slice 3 (Kd.int .i64)) w A1 s.length s) (hc1 : s.length ≤ c1) (_hr2 : Kd.C (Kd.slice 3 (Kd.int .i64)) w A2 m.length m) (_hc2 : m.length ≤ c2) (hr : Kd.C (Kd.int .i64) w A l.length l) (hc : l.length ≤ c) (h : impl_valPlace.f k n s m l = some r) (hbx : w.heap[gb]? = some (.cells #[.int .i64 n, .slice A1 s.length c1, .slice A2 m.length c2] 61 (0, 0))) :
  Calls Tryd.prog 46 #[.pointer (some ⟨gb, 0, none⟩), .slice A l.length c] w fun e w' => e = .returned (.int .i64 r) ∧ Below w.heap.size w w' := by
 have hu := Tryd.underlying61
 unfold impl_valPlace.f at h
 obtain ⟨⟨r1, r2⟩, h1, h2⟩ := Option.bind_eq_some_iff.1 h
 obtain rfl := Option.some.inj h2
 have hcz : w.cell? ⟨gb, 1, none⟩ = some (.slice A1 s.length c1) := (blk_cell hbx 1).trans rfl
 have hfz := blk_frozen hbx 1
 have A5 := Aside0.mk h1
 have HR1 := Aside0.mk hr1
 have HR := Aside0.mk hr
 have HC1 := Aside0.mk hc1
 have HC := Aside0.mk hc
 clear h h1 h2 hbx hr1 hr hc1 hc
 go_enter Tryd.func46, Tryd.ntmps46
 go_wp2_with (first
  | (go_at_call 78;(with_reducible refine (slices_BinarySearchFunc_int_int_int.calls k _ _ s _ _ l r1 r2 _ ?side1 ?side2 ?side3 ?side4 A5.out).mono ?_);(case side1 => exact cP HR1.out);(case side2 => exact HC1.out);(case side3 => exact cP HR.out);(case side4 => exact HC.out);rintro e w' ⟨rfl, ⟨nd, rfl⟩⟩))
 go_ret
 exact ⟨rfl, by repeat (first | exact Below.refl _ _ | apply pw_below_drewN)⟩

/-! ### impl_valBest: by hand -/
def impl_valBest.f (k : Nat) (n : Int) (s m : List (List Int)) (l : List Int) (a b : Int) : Option Int := (impl_guardGame_bestAnswer.f k n s m l a b).bind fun r => some r.1
theorem impl_valBest.mono : ∀ a0 a1 a2 a3 a4 a5 k, LeO (impl_valBest.f k a0 a1 a2 a3 a4 a5) (impl_valBest.f (k + 1) a0 a1 a2 a3 a4 a5) := by
 intro a0 a1 a2 a3 a4 a5 k
 unfold impl_valBest.f
 exact LeO.bind (impl_guardGame_bestAnswer.mono _ _ _ _ _ _ _) (fun r => LeO.refl _)
theorem best_ne {W : World} {base : Nat} {ok : Nat → Prop} {A : Option Addr} {c g : Nat} {l : List Int} {o : Array Value} (h : Kd.R (Kd.int .i64) 3 W base ok (.slice A l.length c) l) (hb : W.heap[g]? = some (.cells o 61 (0, 0))) : ∀ ad, A = some ad → 0 < l.length → ad.block ≠ g := by
 intro ad e hl he
 subst e
 obtain ⟨g', cap, hv, _, _, cells, hc⟩ := Kd.R_form h hl
 injection hv with h1 _ _
 have h2 := Option.some.inj h1
 rw [h2] at he
 simp only at he
 rw [he, hb] at hc
 injection hc with hc
 injection hc with _ h3 _
 exact absurd h3 (by decide)
theorem impl_valBest.calls (gb k : Nat) (n : Int) (A1 : Option Addr) (c1 : Nat) (s : List (List Int)) (A2 : Option Addr) (c2 : Nat) (m : List (List Int)) (A : Option Addr) (c : Nat) (l : List Int) (a b : Int) (r : Int) (w : World) (hr1 : Kd.C (Kd.slice 3 (Kd.int .i64)) w A1 s.length s) (_hc1 : s.length ≤ c1) (hr2 : Kd.C (Kd.slice 3 (Kd.int .i64)) w A2 m.length m) (_hc2 : m.length ≤ c2) (hr : Kd.C (Kd.int .i64) w A l.length l) (hc : l.length ≤ c) (hf : ∀ ad, A = some ad → 0 < l.length → ad.block ≠ gb) (h : impl_valBest.f k n s m l a b = some r) (hbx : w.heap[gb]? = some (.cells #[.int .i64 n, .slice A1 s.length c1, .slice A2 m.length c2] 61 (0, 0))) :
  Calls Tryd.prog 54 #[.pointer (some ⟨gb, 0, none⟩), .slice A l.length c, .int .i64 a, .int .i64 b] w fun e w' => e = .returned (.int .i64 r) ∧ Below w.heap.size w w' := by
 unfold impl_valBest.f at h
 obtain ⟨⟨r1, r2⟩, h1, h2⟩ := Option.bind_eq_some_iff.1 h
 obtain rfl := Option.some.inj h2
 refine (impl_guardGame_bestAnswer.calls k gb n s m A c l a b r1 r2 w w ⟨A1, c1, A2, c2, hbx, trivial, hr1, hr2⟩ (Below.refl _ _) hr hc hf h1).mono ?_
 rintro e w' ⟨rfl, _, hB, _⟩
 exact ⟨rfl, hB⟩

/-! ### impl_isAttack: function 53 -/
def impl_isAttack.f (k : Nat) (a0_0 : Int) (l0_1 : List (S78)) (l1 : List Int) (a2 : Int) : Option (Bool) := (impl_isSet.f k a0_0 l0_1 l1).bind fun t666 => (if t666 = true then ((impl_within.f a2 0 (wrap64 (a0_0 - 1))).bind fun t667 => (if t667 = true then ((slices_Contains_int_int.f k l1 a2).bind fun t668 => (some (!t668))) else (some false))) else (some false))
theorem impl_isAttack.mono : ∀ a0 a1 a2 a3 k, LeO (impl_isAttack.f k a0 a1 a2 a3) (impl_isAttack.f (k + 1) a0 a1 a2 a3) := by
 intro a0 a1 a2 a3 k
 unfold impl_isAttack.f
 repeat' first
   | (with_reducible exact impl_isSet.mono _ _ _ _)
   | (with_reducible exact slices_Contains_int_int.mono _ _ _)
   | (with_reducible exact LeO.refl _)
   | (with_reducible exact LeO.none _)
   | (with_reducible refine LeO.ite ?_ ?_)
   | (with_reducible refine LeO.bind ?_ (fun _ => ?_))
   | exact LeO.none _
   | refine LeO.ite ?_ ?_
   | refine LeO.bind ?_ (fun _ => ?_)
theorem impl_isAttack.calls (k : Nat) (a0_0 : Int) (A0_1 : Option Addr) (c0_1 : Nat) (l0_1 : List (S78)) (A1 : Option Addr) (c1 : Nat) (l1 : List Int) (a2 : Int) (r : Bool) (w : World) (hr0_1 : Kd.C k78 w A0_1 l0_1.length l0_1) (hc0_1 : l0_1.length ≤ c0_1) (hr1 : Kd.C (Kd.int .i64) w A1 l1.length l1) (hc1 : l1.length ≤ c1) (h : impl_isAttack.f k a0_0 l0_1 l1 a2 = some r) :
  Calls Tryd.prog 53 #[.agg #[.int .i64 a0_0, .slice A0_1 l0_1.length c0_1], .slice A1 l1.length c1, .int .i64 a2] w fun e w' => e = .returned (.bool r) ∧ Below w.heap.size w w' := by
 have hu29 := Tryd.underlying29
 have HR0_1 := Aside0.mk hr0_1
 have HC0_1 := Aside0.mk hc0_1
 clear hr0_1 hc0_1
 have HR1 := Aside0.mk hr1
 have HC1 := Aside0.mk hc1
 clear hr1 hc1
 have HB := aM (Below.refl w.heap.size w)
 have H : ((impl_isSet.f k a0_0 l0_1 l1).bind fun t666 => (if t666 = true then ((impl_within.f a2 0 (wrap64 (a0_0 - 1))).bind fun t667 => (if t667 = true then ((slices_Contains_int_int.f k l1 a2).bind fun t668 => (some (!t668))) else (some false))) else (some false))) = some r := h
 clear h
 replace H := Option.bind_eq_some_iff.mp H
 obtain ⟨t666, A40, H⟩ := H
 replace H : (if t666 = true then ((impl_within.f a2 0 (wrap64 (a0_0 - 1))).bind fun t667 => (if t667 = true then ((slices_Contains_int_int.f k l1 a2).bind fun t668 => (some (!t668))) else (some false))) else (some false)) = some r := H
 have A4 := Aside0.mk A40
 clear A40
 by_cases c5 : t666 = true
 rotate_left
 ·replace c5 := Bool.eq_false_iff.mpr c5
  subst c5
  have H1 : (some false) = some r := by rw [if_neg (show ¬ (false = true) by decide)] at H;exact H
  clear H
  have H := H1
  clear H1
  obtain rfl := Option.some.inj H
  go_enter Tryd.func53, Tryd.ntmps53
  go_wp2_with (first | ((with_reducible refine gate_dst (N := 3) rfl ?_);refine box_event ?hg (N := 3) ?hd (cs := #[.int .i64 a0_0, .slice A0_1 l0_1.length c0_1]) (t := 29) ?hr ?_;(case hd => rfl);(case hg => rfl);(case hr => exact gS);intro gb665 hg w17 hbox hb;have n0_ := aM (below_step (by exact bB) hb);have n1_ := aM (hbox);have n2_ := aM (sW hg : w.heap.size ≤ gb665);have n3_ := aM (sW hg : w.heap.size ≤ gb665);clear HB;have HB := n0_;have BK665 := n1_;have GW665 := n2_;have GE665 := n3_;clear n0_ n1_ n2_ n3_;clear hb hbox hg;have hcz18_0 := bC0 BK665.out;have hcz18_1 := bC1 BK665.out;have hfz18_0 := blk_frozen BK665.out 0;have hfz18_1 := blk_frozen BK665.out 1) | ((with_reducible refine gate_callee (f := 45) rfl ?_);refine goesL_ (some 9) rfl rfl Tryd.func45 (by kernel_rfl) rfl #[.agg #[.int .i64 a0_0, .slice A0_1 l0_1.length c0_1], .slice A1 l1.length c1] rfl mM ?_;(with_reducible refine (impl_isSet.calls k a0_0 _ _ l0_1 _ _ l1 false _ ?side1 ?side2 ?side3 ?side4 A4.out).mono ?_);(case side1 => exact cP (Kd.C_below HR0_1.out HB.out));(case side2 => exact HC0_1.out);(case side3 => exact cP (Kd.C_below HR1.out HB.out));(case side4 => exact HC1.out);rintro e w19 ⟨rfl, hb⟩;refine ⟨_, rfl, ?_⟩;have n0_ := aM (kB hb BK665.out);have n1_ := aM (below_step (by exact bB) hb);clear BK665;clear HB;have BK665 := n0_;have HB := n1_;clear n0_ n1_;(try clear hb)))
  go_ret
  exact ⟨eW, by exact bB⟩
 subst c5
 have H1 : ((impl_within.f a2 0 (wrap64 (a0_0 - 1))).bind fun t667 => (if t667 = true then ((slices_Contains_int_int.f k l1 a2).bind fun t668 => (some (!t668))) else (some false))) = some r := by rw [if_pos rfl] at H;exact H
 clear H
 have H := H1
 clear H1
 replace H := Option.bind_eq_some_iff.mp H
 obtain ⟨t667, A60, H⟩ := H
 replace H : (if t667 = true then ((slices_Contains_int_int.f k l1 a2).bind fun t668 => (some (!t668))) else (some false)) = some r := H
 have A6 := Aside0.mk A60
 clear A60
 by_cases c7 : t667 = true
 rotate_left
 ·replace c7 := Bool.eq_false_iff.mpr c7
  subst c7
  have H1 : (some false) = some r := by rw [if_neg (show ¬ (false = true) by decide)] at H;exact H
  clear H
  have H := H1
  clear H1
  obtain rfl := Option.some.inj H
  go_enter Tryd.func53, Tryd.ntmps53
  go_wp2_with (first | ((with_reducible refine gate_dst (N := 3) rfl ?_);refine box_event ?hg (N := 3) ?hd (cs := #[.int .i64 a0_0, .slice A0_1 l0_1.length c0_1]) (t := 29) ?hr ?_;(case hd => rfl);(case hg => rfl);(case hr => exact gS);intro gb665 hg w13 hbox hb;have n0_ := aM (below_step (by exact bB) hb);have n1_ := aM (hbox);have n2_ := aM (sW hg : w.heap.size ≤ gb665);have n3_ := aM (sW hg : w.heap.size ≤ gb665);clear HB;have HB := n0_;have BK665 := n1_;have GW665 := n2_;have GE665 := n3_;clear n0_ n1_ n2_ n3_;clear hb hbox hg;have hcz14_0 := bC0 BK665.out;have hcz14_1 := bC1 BK665.out;have hfz14_0 := blk_frozen BK665.out 0;have hfz14_1 := blk_frozen BK665.out 1) | ((with_reducible refine gate_callee (f := 45) rfl ?_);refine goesL_ (some 9) rfl rfl Tryd.func45 (by kernel_rfl) rfl #[.agg #[.int .i64 a0_0, .slice A0_1 l0_1.length c0_1], .slice A1 l1.length c1] rfl mM ?_;(with_reducible refine (impl_isSet.calls k a0_0 _ _ l0_1 _ _ l1 true _ ?side1 ?side2 ?side3 ?side4 A4.out).mono ?_);(case side1 => exact cP (Kd.C_below HR0_1.out HB.out));(case side2 => exact HC0_1.out);(case side3 => exact cP (Kd.C_below HR1.out HB.out));(case side4 => exact HC1.out);rintro e w15 ⟨rfl, hb⟩;refine ⟨_, rfl, ?_⟩;have n0_ := aM (kB hb BK665.out);have n1_ := aM (below_step (by exact bB) hb);clear BK665;clear HB;have BK665 := n0_;have HB := n1_;clear n0_ n1_;(try clear hb);have hcz16_0 := bC0 BK665.out;have hcz16_1 := bC1 BK665.out;have hfz16_0 := blk_frozen BK665.out 0;have hfz16_1 := blk_frozen BK665.out 1) | (go_at_call 31;(with_reducible refine (impl_within.calls a2 0 (wrap64 (a0_0 - 1)) false _ A6.out).mono ?_);rintro e w' ⟨rfl, ⟨nd, rfl⟩⟩))
  go_ret
  exact ⟨eW, by exact bB⟩
 subst c7
 have H1 : ((slices_Contains_int_int.f k l1 a2).bind fun t668 => (some (!t668))) = some r := by rw [if_pos rfl] at H;exact H
 clear H
 have H := H1
 clear H1
 replace H := Option.bind_eq_some_iff.mp H
 obtain ⟨t668, A80, H⟩ := H
 replace H : (some (!t668)) = some r := H
 have A8 := Aside0.mk A80
 clear A80
 obtain rfl := Option.some.inj H
 go_enter Tryd.func53, Tryd.ntmps53
 go_wp2_with (first | ((with_reducible refine gate_dst (N := 3) rfl ?_);refine box_event ?hg (N := 3) ?hd (cs := #[.int .i64 a0_0, .slice A0_1 l0_1.length c0_1]) (t := 29) ?hr ?_;(case hd => rfl);(case hg => rfl);(case hr => exact gS);intro gb665 hg w9 hbox hb;have n0_ := aM (below_step (by exact bB) hb);have n1_ := aM (hbox);have n2_ := aM (sW hg : w.heap.size ≤ gb665);have n3_ := aM (sW hg : w.heap.size ≤ gb665);clear HB;have HB := n0_;have BK665 := n1_;have GW665 := n2_;have GE665 := n3_;clear n0_ n1_ n2_ n3_;clear hb hbox hg;have hcz10_0 := bC0 BK665.out;have hcz10_1 := bC1 BK665.out;have hfz10_0 := blk_frozen BK665.out 0;have hfz10_1 := blk_frozen BK665.out 1) | ((with_reducible refine gate_callee (f := 45) rfl ?_);refine goesL_ (some 9) rfl rfl Tryd.func45 (by kernel_rfl) rfl #[.agg #[.int .i64 a0_0, .slice A0_1 l0_1.length c0_1], .slice A1 l1.length c1] rfl mM ?_;(with_reducible refine (impl_isSet.calls k a0_0 _ _ l0_1 _ _ l1 true _ ?side1 ?side2 ?side3 ?side4 A4.out).mono ?_);(case side1 => exact cP (Kd.C_below HR0_1.out HB.out));(case side2 => exact HC0_1.out);(case side3 => exact cP (Kd.C_below HR1.out HB.out));(case side4 => exact HC1.out);rintro e w11 ⟨rfl, hb⟩;refine ⟨_, rfl, ?_⟩;have n0_ := aM (kB hb BK665.out);have n1_ := aM (below_step (by exact bB) hb);clear BK665;clear HB;have BK665 := n0_;have HB := n1_;clear n0_ n1_;(try clear hb);have hcz12_0 := bC0 BK665.out;have hcz12_1 := bC1 BK665.out;have hfz12_0 := blk_frozen BK665.out 0;have hfz12_1 := blk_frozen BK665.out 1) | (go_at_call 31;(with_reducible refine (impl_within.calls a2 0 (wrap64 (a0_0 - 1)) true _ A6.out).mono ?_);rintro e w' ⟨rfl, ⟨nd, rfl⟩⟩) | (go_at_call 47;(with_reducible refine (slices_Contains_int_int.calls k _ _ l1 a2 t668 _ ?side1 ?side2 A8.out).mono ?_);(case side1 => exact cP (Kd.C_below HR1.out (by repeat (first | (with_reducible first | exact HB.out | apply below_alloc | apply pw_below_drewN | apply below_drew1 | refine below_set ?_ GE665.out) | exact HB.out))));(case side2 => exact HC1.out);rintro e w' ⟨rfl, ⟨nd, rfl⟩⟩))
 go_ret
 exact ⟨eW, by exact bB⟩


/-! ### impl_BestAnswer: function 21 -/
def impl_BestAnswer.f (k : Nat) (a0_0 : Int) (l0_1 : List (S78)) (l1 : List Int) (a2 : Int) (a3 : Bool) : Option (List Int × Bool) := (impl_isAttack.f k a0_0 l0_1 l1 a2).bind fun t670 => (if t670 = true then ((impl_netOf.f a0_0 l0_1).bind fun t671 => ((impl_net_guardGame.f k t671 (l1.length : Int) a3).bind fun bt674 => ((impl_valResist.f k bt674.1 bt674.2.1 bt674.2.2).bind fun t682 => ((impl_valPlace.f k bt674.1 bt674.2.1 bt674.2.2 l1).bind fun t685 => ((impl_valBest.f k bt674.1 bt674.2.1 bt674.2.2 t682 t685 a2).bind fun t686 => (if t686 < 0 then (some (([] : List Int), false)) else (if 0 ≤ t686 then (if t686 < (bt674.2.1.length : Int) then ((slices_Clone_int_int.f (rd_L2 bt674.2.1 t686)).bind fun t688 => (some (t688, true))) else (none)) else (none)))))))) else (some (([] : List Int), false)))
theorem impl_BestAnswer.mono : ∀ a0 a1 a2 a3 a4 k, LeO (impl_BestAnswer.f k a0 a1 a2 a3 a4) (impl_BestAnswer.f (k + 1) a0 a1 a2 a3 a4) := by
 intro a0 a1 a2 a3 a4 k
 unfold impl_BestAnswer.f
 repeat' first
   | (with_reducible exact impl_isAttack.mono _ _ _ _ _)
   | (with_reducible exact impl_net_guardGame.mono _ _ _ _)
   | (with_reducible exact impl_valBest.mono _ _ _ _ _ _ _)
   | (with_reducible exact impl_valPlace.mono _ _ _ _ _)
   | (with_reducible exact impl_valResist.mono _ _ _ _)
   | (with_reducible exact LeO.refl _)
   | (with_reducible exact LeO.none _)
   | (with_reducible refine LeO.ite ?_ ?_)
   | (with_reducible refine LeO.bind ?_ (fun _ => ?_))
   | exact LeO.none _
   | refine LeO.ite ?_ ?_
   | refine LeO.bind ?_ (fun _ => ?_)
theorem impl_BestAnswer.calls (k : Nat) (a0_0 : Int) (A0_1 : Option Addr) (c0_1 : Nat) (l0_1 : List (S78)) (A1 : Option Addr) (c1 : Nat) (l1 : List Int) (a2 : Int) (a3 : Bool) (r1 : List Int) (r2 : Bool) (w : World) (hT : TabG w) (hr0_1 : Kd.C k78 w A0_1 l0_1.length l0_1) (hc0_1 : l0_1.length ≤ c0_1) (hr1 : Kd.C (Kd.int .i64) w A1 l1.length l1) (hc1 : l1.length ≤ c1) (h : impl_BestAnswer.f k a0_0 l0_1 l1 a2 a3 = some (r1, r2)) :
  Calls Tryd.prog 21 #[.agg #[.int .i64 a0_0, .slice A0_1 l0_1.length c0_1], .slice A1 l1.length c1, .int .i64 a2, .bool a3] w fun e w' => ∃ v0_ : Value, e = .returned (.tuple #[v0_, .bool r2]) ∧ Kd.R (Kd.int .i64) 3 w' w.heap.size (fun _ => True) v0_ r1 ∧ Below w.heap.size w w' := by
 have hu29 := Tryd.underlying29
 have hu61 := Tryd.underlying61
 have HR0_1 := Aside0.mk hr0_1
 have HC0_1 := Aside0.mk hc0_1
 clear hr0_1 hc0_1
 have HR1 := Aside0.mk hr1
 have HC1 := Aside0.mk hc1
 clear hr1 hc1
 have HB := aM (Below.refl w.heap.size w)
 have HT := Aside0.mk hT
 clear hT
 have H : ((impl_isAttack.f k a0_0 l0_1 l1 a2).bind fun t670 => (if t670 = true then ((impl_netOf.f a0_0 l0_1).bind fun t671 => ((impl_net_guardGame.f k t671 (l1.length : Int) a3).bind fun bt674 => ((impl_valResist.f k bt674.1 bt674.2.1 bt674.2.2).bind fun t682 => ((impl_valPlace.f k bt674.1 bt674.2.1 bt674.2.2 l1).bind fun t685 => ((impl_valBest.f k bt674.1 bt674.2.1 bt674.2.2 t682 t685 a2).bind fun t686 => (if t686 < 0 then (some (([] : List Int), false)) else (if 0 ≤ t686 then (if t686 < (bt674.2.1.length : Int) then ((slices_Clone_int_int.f (rd_L2 bt674.2.1 t686)).bind fun t688 => (some (t688, true))) else (none)) else (none)))))))) else (some (([] : List Int), false)))) = some (r1, r2) := h
 clear h
 replace H := Option.bind_eq_some_iff.mp H
 obtain ⟨t670, A50, H⟩ := H
 replace H : (if t670 = true then ((impl_netOf.f a0_0 l0_1).bind fun t671 => ((impl_net_guardGame.f k t671 (l1.length : Int) a3).bind fun bt674 => ((impl_valResist.f k bt674.1 bt674.2.1 bt674.2.2).bind fun t682 => ((impl_valPlace.f k bt674.1 bt674.2.1 bt674.2.2 l1).bind fun t685 => ((impl_valBest.f k bt674.1 bt674.2.1 bt674.2.2 t682 t685 a2).bind fun t686 => (if t686 < 0 then (some (([] : List Int), false)) else (if 0 ≤ t686 then (if t686 < (bt674.2.1.length : Int) then ((slices_Clone_int_int.f (rd_L2 bt674.2.1 t686)).bind fun t688 => (some (t688, true))) else (none)) else (none)))))))) else (some (([] : List Int), false))) = some (r1, r2) := H
 have A5 := Aside0.mk A50
 clear A50
 by_cases c6 : t670 = true
 rotate_left
 ·replace c6 := Bool.eq_false_iff.mpr c6
  subst c6
  have H1 : (some (([] : List Int), false)) = some (r1, r2) := by rw [if_neg (show ¬ (false = true) by decide)] at H;exact H
  clear H
  have H := H1
  clear H1
  simp only [Option.some.injEq, Prod.mk.injEq] at H
  obtain ⟨rfl, rfl⟩ := H
  go_enter Tryd.func21, Tryd.ntmps21
  go_wp2_with (first | ((with_reducible refine gate_dst (N := 4) rfl ?_);refine box_event ?hg (N := 4) ?hd (cs := #[.int .i64 a0_0, .slice A0_1 l0_1.length c0_1]) (t := 29) ?hr ?_;(case hd => rfl);(case hg => rfl);(case hr => exact gS);intro gb669 hg w52 hbox hb;have n0_ := aM (below_step (by exact bB) hb);have n1_ := aM (hbox);have n2_ := aM (sW hg : w.heap.size ≤ gb669);have n3_ := aM (sW hg : w.heap.size ≤ gb669);clear HB;have HB := n0_;have BK669 := n1_;have GW669 := n2_;have GE669 := n3_;clear n0_ n1_ n2_ n3_;clear hb hbox hg;have hcz53_0 := bC0 BK669.out;have hcz53_1 := bC1 BK669.out;have hfz53_0 := blk_frozen BK669.out 0;have hfz53_1 := blk_frozen BK669.out 1) | ((with_reducible refine gate_callee (f := 53) rfl ?_);refine goesL_ (some 15) rfl rfl Tryd.func53 (by kernel_rfl) rfl #[.agg #[.int .i64 a0_0, .slice A0_1 l0_1.length c0_1], .slice A1 l1.length c1, .int .i64 a2] rfl mM ?_;(with_reducible refine (impl_isAttack.calls k a0_0 _ _ l0_1 _ _ l1 a2 false _ ?side1 ?side2 ?side3 ?side4 A5.out).mono ?_);(case side1 => exact cP (Kd.C_below HR0_1.out HB.out));(case side2 => exact HC0_1.out);(case side3 => exact cP (Kd.C_below HR1.out HB.out));(case side4 => exact HC1.out);rintro e w54 ⟨rfl, hb⟩;refine ⟨_, rfl, ?_⟩;have n0_ := aM (kB hb BK669.out);have n1_ := aM (below_step (by exact bB) hb);clear BK669;clear HB;have BK669 := n0_;have HB := n1_;clear n0_ n1_;(try clear hb)))
  go_ret2
  exact ⟨_, eW, by first | exact Kd.R_nil _ _ _ _ _ | exact Kd.N_nil _ _ _ _ _ | exact Kd.V_nil _ _ _ _ _ | exact Kd.Q_nil _ _ _ _ _ | exact Kd.S_nil _ _ _ _ _, by exact bB⟩
 subst c6
 have H1 : ((impl_netOf.f a0_0 l0_1).bind fun t671 => ((impl_net_guardGame.f k t671 (l1.length : Int) a3).bind fun bt674 => ((impl_valResist.f k bt674.1 bt674.2.1 bt674.2.2).bind fun t682 => ((impl_valPlace.f k bt674.1 bt674.2.1 bt674.2.2 l1).bind fun t685 => ((impl_valBest.f k bt674.1 bt674.2.1 bt674.2.2 t682 t685 a2).bind fun t686 => (if t686 < 0 then (some (([] : List Int), false)) else (if 0 ≤ t686 then (if t686 < (bt674.2.1.length : Int) then ((slices_Clone_int_int.f (rd_L2 bt674.2.1 t686)).bind fun t688 => (some (t688, true))) else (none)) else (none)))))))) = some (r1, r2) := by rw [if_pos rfl] at H;exact H
 clear H
 have H := H1
 clear H1
 replace H := Option.bind_eq_some_iff.mp H
 obtain ⟨t671, A70, H⟩ := H
 replace H : ((impl_net_guardGame.f k t671 (l1.length : Int) a3).bind fun bt674 => ((impl_valResist.f k bt674.1 bt674.2.1 bt674.2.2).bind fun t682 => ((impl_valPlace.f k bt674.1 bt674.2.1 bt674.2.2 l1).bind fun t685 => ((impl_valBest.f k bt674.1 bt674.2.1 bt674.2.2 t682 t685 a2).bind fun t686 => (if t686 < 0 then (some (([] : List Int), false)) else (if 0 ≤ t686 then (if t686 < (bt674.2.1.length : Int) then ((slices_Clone_int_int.f (rd_L2 bt674.2.1 t686)).bind fun t688 => (some (t688, true))) else (none)) else (none))))))) = some (r1, r2) := H
 have A7 := Aside0.mk A70
 clear A70
 replace H := Option.bind_eq_some_iff.mp H
 obtain ⟨⟨t674, t675, t678⟩, A80, H⟩ := H
 replace H : ((impl_valResist.f k t674 t675 t678).bind fun t682 => ((impl_valPlace.f k t674 t675 t678 l1).bind fun t685 => ((impl_valBest.f k t674 t675 t678 t682 t685 a2).bind fun t686 => (if t686 < 0 then (some (([] : List Int), false)) else (if 0 ≤ t686 then (if t686 < (t675.length : Int) then ((slices_Clone_int_int.f (rd_L2 t675 t686)).bind fun t688 => (some (t688, true))) else (none)) else (none)))))) = some (r1, r2) := H
 have A8 := Aside0.mk A80
 clear A80
 replace H := Option.bind_eq_some_iff.mp H
 obtain ⟨t682, A90, H⟩ := H
 replace H : ((impl_valPlace.f k t674 t675 t678 l1).bind fun t685 => ((impl_valBest.f k t674 t675 t678 t682 t685 a2).bind fun t686 => (if t686 < 0 then (some (([] : List Int), false)) else (if 0 ≤ t686 then (if t686 < (t675.length : Int) then ((slices_Clone_int_int.f (rd_L2 t675 t686)).bind fun t688 => (some (t688, true))) else (none)) else (none))))) = some (r1, r2) := H
 have A9 := Aside0.mk A90
 clear A90
 replace H := Option.bind_eq_some_iff.mp H
 obtain ⟨t685, A100, H⟩ := H
 replace H : ((impl_valBest.f k t674 t675 t678 t682 t685 a2).bind fun t686 => (if t686 < 0 then (some (([] : List Int), false)) else (if 0 ≤ t686 then (if t686 < (t675.length : Int) then ((slices_Clone_int_int.f (rd_L2 t675 t686)).bind fun t688 => (some (t688, true))) else (none)) else (none)))) = some (r1, r2) := H
 have A10 := Aside0.mk A100
 clear A100
 replace H := Option.bind_eq_some_iff.mp H
 obtain ⟨t686, A110, H⟩ := H
 replace H : (if t686 < 0 then (some (([] : List Int), false)) else (if 0 ≤ t686 then (if t686 < (t675.length : Int) then ((slices_Clone_int_int.f (rd_L2 t675 t686)).bind fun t688 => (some (t688, true))) else (none)) else (none))) = some (r1, r2) := H
 have A11 := Aside0.mk A110
 clear A110
 by_cases c12 : t686 < 0
 ·rw [if_pos c12] at H
  have c12b0 : decide (t686 < 0) = true := decide_eq_true c12
  clear c12
  simp only [Option.some.injEq, Prod.mk.injEq] at H
  obtain ⟨rfl, rfl⟩ := H
  go_enter Tryd.func21, Tryd.ntmps21
  go_wp2_with (first | ((with_reducible refine gate_dst (N := 4) rfl ?_);refine box_event ?hg (N := 4) ?hd (cs := #[.int .i64 a0_0, .slice A0_1 l0_1.length c0_1]) (t := 29) ?hr ?_;(case hd => rfl);(case hg => rfl);(case hr => exact gS);intro gb669 hg w13 hbox hb;have n0_ := aM (below_step (by exact bB) hb);have n1_ := aM (hbox);have n2_ := aM (sW hg : w.heap.size ≤ gb669);have n3_ := aM (sW hg : w.heap.size ≤ gb669);clear HB;have HB := n0_;have BK669 := n1_;have GW669 := n2_;have GE669 := n3_;clear n0_ n1_ n2_ n3_;clear hb hbox hg;have hcz14_0 := bC0 BK669.out;have hcz14_1 := bC1 BK669.out;have hfz14_0 := blk_frozen BK669.out 0;have hfz14_1 := blk_frozen BK669.out 1) | ((with_reducible refine gate_callee (f := 53) rfl ?_);refine goesL_ (some 15) rfl rfl Tryd.func53 (by kernel_rfl) rfl #[.agg #[.int .i64 a0_0, .slice A0_1 l0_1.length c0_1], .slice A1 l1.length c1, .int .i64 a2] rfl mM ?_;(with_reducible refine (impl_isAttack.calls k a0_0 _ _ l0_1 _ _ l1 a2 true _ ?side1 ?side2 ?side3 ?side4 A5.out).mono ?_);(case side1 => exact cP (Kd.C_below HR0_1.out HB.out));(case side2 => exact HC0_1.out);(case side3 => exact cP (Kd.C_below HR1.out HB.out));(case side4 => exact HC1.out);rintro e w15 ⟨rfl, hb⟩;refine ⟨_, rfl, ?_⟩;have n0_ := aM (kB hb BK669.out);have n1_ := aM (below_step (by exact bB) hb);clear BK669;clear HB;have BK669 := n0_;have HB := n1_;clear n0_ n1_;(try clear hb);have hcz16_0 := bC0 BK669.out;have hcz16_1 := bC1 BK669.out;have hfz16_0 := blk_frozen BK669.out 0;have hfz16_1 := blk_frozen BK669.out 1) | ((with_reducible refine gate_callee (f := 32) rfl ?_);refine goesL_ (some 18) rfl rfl Tryd.func32 (by kernel_rfl) rfl #[.agg #[.int .i64 a0_0, .slice A0_1 l0_1.length c0_1]] rfl mM ?_;(with_reducible refine (impl_netOf.calls a0_0 _ _ l0_1 t671 _ ?side1 ?side2 A7.out).mono ?_);(case side1 => exact cP (Kd.C_below HR0_1.out HB.out));(case side2 => exact HC0_1.out);rintro e w17 ⟨v672, rfl, ho0, hb⟩;refine ⟨_, rfl, ?_⟩;have n0_ := aM (Kd.R_lower ho0 (below_size (by exact bB)));have n1_ := aM (kB hb BK669.out);have n2_ := aM (below_step (by exact bB) hb);clear BK669;clear HB;have HO673 := n0_;have BK669 := n1_;have HB := n2_;clear n0_ n1_ n2_;(try clear hb);(try clear ho0);obtain ⟨Ao18, co18, eo18⟩ := Kd.R_slice HO673.out;subst eo18) | ((with_reducible refine gate_callee (f := 33) rfl ?_);refine goesL_ (some 22) rfl rfl Tryd.func33 (by kernel_rfl) rfl #[.agg #[.slice Ao18 t671.length co18], .int .i64 (l1.length : Int), .bool a3] rfl mM ?_;(with_reducible refine (impl_net_guardGame.calls k _ _ t671 (l1.length : Int) a3 t674 t675 t678 _ ?sideT ?side1 ?side2 A8.out).mono ?_);(case sideT => exact tabG_below HT.out (by exact bB));(case side1 => exact cP (Kd.R_reads' HO673.out).2.2);(case side2 => exact (Kd.R_reads' HO673.out).2.1);rintro e w19 ⟨gb681, v676, v679, rfl, hbx, hge, ho0, ho1, hb⟩;refine ⟨_, rfl, ?_⟩;have GW681 := aM (Nat.le_trans (below_size (by exact bB)) hge);have GE681 := GW681;have NB669_681 : Aside0 (gb669 ≠ gb681) := ⟨Nat.ne_of_lt (Nat.lt_of_lt_of_le (blk_lt (g := gb669) (o := .cells #[.int .i64 a0_0, .slice A0_1 l0_1.length c0_1] 29 (0, 0)) (by exact kP BK669.out)) hge)⟩;have NB681_669 : Aside0 (gb681 ≠ gb669) := ⟨Nat.ne_of_gt (Nat.lt_of_lt_of_le (blk_lt (g := gb669) (o := .cells #[.int .i64 a0_0, .slice A0_1 l0_1.length c0_1] 29 (0, 0)) (by exact kP BK669.out)) hge)⟩;have n0_ := aM (Kd.R_below (by exact rP HO673.out) hb);have n1_ := aM (Kd.S_lower (Kd.S_new' ho0 (Kd.R_lt (by exact rP HO673.out))) (below_size (by exact bB)));have n2_ := aM (Kd.S_lower (Kd.S_new' ho1 (Kd.R_lt (by exact rP HO673.out))) (below_size (by exact bB)));have n3_ := aM (kB hb BK669.out);have n4_ := aM (below_step (by exact bB) hb);clear HO673;clear BK669;clear HB;have HO673 := n0_;have HO677 := n1_;have HO680 := n2_;have BK669 := n3_;have HB := n4_;clear n0_ n1_ n2_ n3_ n4_;(try clear hb);(try clear ho0);(try clear ho1);obtain ⟨Ao20, co20, eo20⟩ := Kd.S_slice HO677.out;subst eo20;obtain ⟨Ao21, co21, eo21⟩ := Kd.S_slice HO680.out;subst eo21;have BK681 := Aside0.mk hbx;clear hbx hge;have hnb23 := NB681_669.out;have hnc23 := NB669_681.out;have hcz24_0 := bC0 BK681.out;have hcz24_1 := bC1 BK681.out;have hcz24_2 := bC2 BK681.out;have hfz24_0 := blk_frozen BK681.out 0;have hfz24_1 := blk_frozen BK681.out 1;have hfz24_2 := blk_frozen BK681.out 2) | ((with_reducible refine gate_callee (f := 34) rfl ?_);refine goesL_ (some 25) rfl rfl Tryd.func34 (by kernel_rfl) rfl #[.pointer (some ⟨gb681, 0, none⟩)] rfl mM ?_;(with_reducible refine (impl_valResist.calls gb681 k t674 Ao20 co20 t675 Ao21 co21 t678 t682 _ ?side1 ?side2 ?side3 ?side4 A9.out ?sideG).mono ?_);(case sideG => exact kP BK681.out);(case side1 => exact cP (Kd.S_reads' HO677.out).2.2);(case side2 => exact (Kd.S_reads' HO677.out).2.1);(case side3 => exact cP (Kd.S_reads' HO680.out).2.2);(case side4 => exact (Kd.S_reads' HO680.out).2.1);rintro e w25 ⟨v683, rfl, ho0, hb⟩;refine ⟨_, rfl, ?_⟩;have n0_ := aM (Kd.R_elder' (by exact rP HO673.out) (Kd.R_base ho0) hb);have n1_ := aM (Kd.S_elder' (by exact tP HO677.out) (Kd.R_base ho0) hb);have n2_ := aM (Kd.S_elder' (by exact tP HO680.out) (Kd.R_base ho0) hb);have n3_ := aM (Kd.R_lower (Kd.R_new' ho0 (Kd.R_lt (by exact rP HO673.out))) (below_size (by exact bB)));have n4_ := aM (kB hb BK669.out);have n5_ := aM (kB hb BK681.out);have n6_ := aM (below_step (by exact bB) hb);clear HO673;clear HO677;clear HO680;clear BK669;clear BK681;clear HB;have HO673 := n0_;have HO677 := n1_;have HO680 := n2_;have HO684 := n3_;have BK669 := n4_;have BK681 := n5_;have HB := n6_;clear n0_ n1_ n2_ n3_ n4_ n5_ n6_;(try clear hb);(try clear ho0);have hcz26_0 := bC0 BK681.out;have hcz26_1 := bC1 BK681.out;have hcz26_2 := bC2 BK681.out;have hfz26_0 := blk_frozen BK681.out 0;have hfz26_1 := blk_frozen BK681.out 1;have hfz26_2 := blk_frozen BK681.out 2) | ((with_reducible refine gate_callee (f := 46) rfl ?_);refine goesL_ (some 28) rfl rfl Tryd.func46 (by kernel_rfl) rfl #[.pointer (some ⟨gb681, 0, none⟩), .slice A1 l1.length c1] rfl mM ?_;(with_reducible refine (impl_valPlace.calls gb681 k t674 Ao20 co20 t675 Ao21 co21 t678 _ _ l1 t685 _ ?side1 ?side2 ?side3 ?side4 ?side5 ?side6 A10.out ?sideG).mono ?_);(case sideG => exact kP BK681.out);(case side1 => exact cP (Kd.S_reads' HO677.out).2.2);(case side2 => exact (Kd.S_reads' HO677.out).2.1);(case side3 => exact cP (Kd.S_reads' HO680.out).2.2);(case side4 => exact (Kd.S_reads' HO680.out).2.1);(case side5 => exact cP (Kd.C_below HR1.out HB.out));(case side6 => exact HC1.out);rintro e w27 ⟨rfl, hb⟩;refine ⟨_, rfl, ?_⟩;have n0_ := aM (Kd.R_below (by exact rP HO673.out) hb);have n1_ := aM (Kd.S_below (by exact tP HO677.out) hb);have n2_ := aM (Kd.S_below (by exact tP HO680.out) hb);have n3_ := aM (Kd.R_below (by exact rP HO684.out) hb);have n4_ := aM (kB hb BK669.out);have n5_ := aM (kB hb BK681.out);have n6_ := aM (below_step (by exact bB) hb);clear HO673;clear HO677;clear HO680;clear HO684;clear BK669;clear BK681;clear HB;have HO673 := n0_;have HO677 := n1_;have HO680 := n2_;have HO684 := n3_;have BK669 := n4_;have BK681 := n5_;have HB := n6_;clear n0_ n1_ n2_ n3_ n4_ n5_ n6_;(try clear hb);obtain ⟨Ao28, co28, eo28⟩ := Kd.R_slice HO684.out;subst eo28) | ((with_reducible refine gate_callee (f := 54) rfl ?_);refine goesL_ (some 30) rfl rfl Tryd.func54 (by kernel_rfl) rfl #[.pointer (some ⟨gb681, 0, none⟩), .slice Ao28 t682.length co28, .int .i64 t685, .int .i64 a2] rfl mM ?_;(with_reducible refine (impl_valBest.calls gb681 k t674 Ao20 co20 t675 Ao21 co21 t678 _ _ t682 t685 a2 t686 _ ?side1 ?side2 ?side3 ?side4 ?side5 ?side6 ?sideF A11.out ?sideG).mono ?_);(case sideG => exact kP BK681.out);(case sideF => exact best_ne HO684.out BK681.out);(case side1 => exact cP (Kd.S_reads' HO677.out).2.2);(case side2 => exact (Kd.S_reads' HO677.out).2.1);(case side3 => exact cP (Kd.S_reads' HO680.out).2.2);(case side4 => exact (Kd.S_reads' HO680.out).2.1);(case side5 => exact cP (Kd.R_reads' HO684.out).2.2);(case side6 => exact (Kd.R_reads' HO684.out).2.1);rintro e w29 ⟨rfl, hb⟩;refine ⟨_, rfl, ?_⟩;have n0_ := aM (Kd.R_below (by exact rP HO673.out) hb);have n1_ := aM (Kd.S_below (by exact tP HO677.out) hb);have n2_ := aM (Kd.S_below (by exact tP HO680.out) hb);have n3_ := aM (Kd.R_below (by exact rP HO684.out) hb);have n4_ := aM (kB hb BK669.out);have n5_ := aM (kB hb BK681.out);have n6_ := aM (below_step (by exact bB) hb);clear HO673;clear HO677;clear HO680;clear HO684;clear BK669;clear BK681;clear HB;have HO673 := n0_;have HO677 := n1_;have HO680 := n2_;have HO684 := n3_;have BK669 := n4_;have BK681 := n5_;have HB := n6_;clear n0_ n1_ n2_ n3_ n4_ n5_ n6_;(try clear hb)))
  go_ret2
  exact ⟨_, eW, by first | exact Kd.R_nil _ _ _ _ _ | exact Kd.N_nil _ _ _ _ _ | exact Kd.V_nil _ _ _ _ _ | exact Kd.Q_nil _ _ _ _ _ | exact Kd.S_nil _ _ _ _ _, by exact bB⟩
 rw [if_neg c12] at H
 have c12b0 : decide (t686 < 0) = false := decide_eq_false c12
 clear c12
 by_cases c30 : 0 ≤ t686
 rotate_left
 ·rw [if_neg c30] at H
  exact absurd H (by simp)
 rw [if_pos c30] at H
 have c30b0 : decide (0 ≤ t686) = true := decide_eq_true c30
 clear c30
 by_cases c31 : t686 < (t675.length : Int)
 rotate_left
 ·rw [if_neg c31] at H
  exact absurd H (by simp)
 rw [if_pos c31] at H
 have c31b0 : decide (t686 < (t675.length : Int)) = true := decide_eq_true c31
 clear c31
 replace H := Option.bind_eq_some_iff.mp H
 obtain ⟨t688, A320, H⟩ := H
 replace H : (some (t688, true)) = some (r1, r2) := H
 have A32 := Aside0.mk A320
 clear A320
 simp only [Option.some.injEq, Prod.mk.injEq] at H
 obtain ⟨rfl, rfl⟩ := H
 go_enter Tryd.func21, Tryd.ntmps21
 go_wp2_with (first | ((with_reducible refine gate_dst (N := 4) rfl ?_);refine box_event ?hg (N := 4) ?hd (cs := #[.int .i64 a0_0, .slice A0_1 l0_1.length c0_1]) (t := 29) ?hr ?_;(case hd => rfl);(case hg => rfl);(case hr => exact gS);intro gb669 hg w33 hbox hb;have n0_ := aM (below_step (by exact bB) hb);have n1_ := aM (hbox);have n2_ := aM (sW hg : w.heap.size ≤ gb669);have n3_ := aM (sW hg : w.heap.size ≤ gb669);clear HB;have HB := n0_;have BK669 := n1_;have GW669 := n2_;have GE669 := n3_;clear n0_ n1_ n2_ n3_;clear hb hbox hg;have hcz34_0 := bC0 BK669.out;have hcz34_1 := bC1 BK669.out;have hfz34_0 := blk_frozen BK669.out 0;have hfz34_1 := blk_frozen BK669.out 1) | ((with_reducible refine gate_callee (f := 53) rfl ?_);refine goesL_ (some 15) rfl rfl Tryd.func53 (by kernel_rfl) rfl #[.agg #[.int .i64 a0_0, .slice A0_1 l0_1.length c0_1], .slice A1 l1.length c1, .int .i64 a2] rfl mM ?_;(with_reducible refine (impl_isAttack.calls k a0_0 _ _ l0_1 _ _ l1 a2 true _ ?side1 ?side2 ?side3 ?side4 A5.out).mono ?_);(case side1 => exact cP (Kd.C_below HR0_1.out HB.out));(case side2 => exact HC0_1.out);(case side3 => exact cP (Kd.C_below HR1.out HB.out));(case side4 => exact HC1.out);rintro e w35 ⟨rfl, hb⟩;refine ⟨_, rfl, ?_⟩;have n0_ := aM (kB hb BK669.out);have n1_ := aM (below_step (by exact bB) hb);clear BK669;clear HB;have BK669 := n0_;have HB := n1_;clear n0_ n1_;(try clear hb);have hcz36_0 := bC0 BK669.out;have hcz36_1 := bC1 BK669.out;have hfz36_0 := blk_frozen BK669.out 0;have hfz36_1 := blk_frozen BK669.out 1) | ((with_reducible refine gate_callee (f := 32) rfl ?_);refine goesL_ (some 18) rfl rfl Tryd.func32 (by kernel_rfl) rfl #[.agg #[.int .i64 a0_0, .slice A0_1 l0_1.length c0_1]] rfl mM ?_;(with_reducible refine (impl_netOf.calls a0_0 _ _ l0_1 t671 _ ?side1 ?side2 A7.out).mono ?_);(case side1 => exact cP (Kd.C_below HR0_1.out HB.out));(case side2 => exact HC0_1.out);rintro e w37 ⟨v672, rfl, ho0, hb⟩;refine ⟨_, rfl, ?_⟩;have n0_ := aM (Kd.R_lower ho0 (below_size (by exact bB)));have n1_ := aM (kB hb BK669.out);have n2_ := aM (below_step (by exact bB) hb);clear BK669;clear HB;have HO673 := n0_;have BK669 := n1_;have HB := n2_;clear n0_ n1_ n2_;(try clear hb);(try clear ho0);obtain ⟨Ao38, co38, eo38⟩ := Kd.R_slice HO673.out;subst eo38) | ((with_reducible refine gate_callee (f := 33) rfl ?_);refine goesL_ (some 22) rfl rfl Tryd.func33 (by kernel_rfl) rfl #[.agg #[.slice Ao38 t671.length co38], .int .i64 (l1.length : Int), .bool a3] rfl mM ?_;(with_reducible refine (impl_net_guardGame.calls k _ _ t671 (l1.length : Int) a3 t674 t675 t678 _ ?sideT ?side1 ?side2 A8.out).mono ?_);(case sideT => exact tabG_below HT.out (by exact bB));(case side1 => exact cP (Kd.R_reads' HO673.out).2.2);(case side2 => exact (Kd.R_reads' HO673.out).2.1);rintro e w39 ⟨gb681, v676, v679, rfl, hbx, hge, ho0, ho1, hb⟩;refine ⟨_, rfl, ?_⟩;have GW681 := aM (Nat.le_trans (below_size (by exact bB)) hge);have GE681 := GW681;have NB669_681 : Aside0 (gb669 ≠ gb681) := ⟨Nat.ne_of_lt (Nat.lt_of_lt_of_le (blk_lt (g := gb669) (o := .cells #[.int .i64 a0_0, .slice A0_1 l0_1.length c0_1] 29 (0, 0)) (by exact kP BK669.out)) hge)⟩;have NB681_669 : Aside0 (gb681 ≠ gb669) := ⟨Nat.ne_of_gt (Nat.lt_of_lt_of_le (blk_lt (g := gb669) (o := .cells #[.int .i64 a0_0, .slice A0_1 l0_1.length c0_1] 29 (0, 0)) (by exact kP BK669.out)) hge)⟩;have n0_ := aM (Kd.R_below (by exact rP HO673.out) hb);have n1_ := aM (Kd.S_lower (Kd.S_new' ho0 (Kd.R_lt (by exact rP HO673.out))) (below_size (by exact bB)));have n2_ := aM (Kd.S_lower (Kd.S_new' ho1 (Kd.R_lt (by exact rP HO673.out))) (below_size (by exact bB)));have n3_ := aM (kB hb BK669.out);have n4_ := aM (below_step (by exact bB) hb);clear HO673;clear BK669;clear HB;have HO673 := n0_;have HO677 := n1_;have HO680 := n2_;have BK669 := n3_;have HB := n4_;clear n0_ n1_ n2_ n3_ n4_;(try clear hb);(try clear ho0);(try clear ho1);obtain ⟨Ao40, co40, eo40⟩ := Kd.S_slice HO677.out;subst eo40;obtain ⟨Ao41, co41, eo41⟩ := Kd.S_slice HO680.out;subst eo41;have BK681 := Aside0.mk hbx;clear hbx hge;have hnb43 := NB681_669.out;have hnc43 := NB669_681.out;have hcz44_0 := bC0 BK681.out;have hcz44_1 := bC1 BK681.out;have hcz44_2 := bC2 BK681.out;have hfz44_0 := blk_frozen BK681.out 0;have hfz44_1 := blk_frozen BK681.out 1;have hfz44_2 := blk_frozen BK681.out 2) | ((with_reducible refine gate_callee (f := 34) rfl ?_);refine goesL_ (some 25) rfl rfl Tryd.func34 (by kernel_rfl) rfl #[.pointer (some ⟨gb681, 0, none⟩)] rfl mM ?_;(with_reducible refine (impl_valResist.calls gb681 k t674 Ao40 co40 t675 Ao41 co41 t678 t682 _ ?side1 ?side2 ?side3 ?side4 A9.out ?sideG).mono ?_);(case sideG => exact kP BK681.out);(case side1 => exact cP (Kd.S_reads' HO677.out).2.2);(case side2 => exact (Kd.S_reads' HO677.out).2.1);(case side3 => exact cP (Kd.S_reads' HO680.out).2.2);(case side4 => exact (Kd.S_reads' HO680.out).2.1);rintro e w45 ⟨v683, rfl, ho0, hb⟩;refine ⟨_, rfl, ?_⟩;have n0_ := aM (Kd.R_elder' (by exact rP HO673.out) (Kd.R_base ho0) hb);have n1_ := aM (Kd.S_elder' (by exact tP HO677.out) (Kd.R_base ho0) hb);have n2_ := aM (Kd.S_elder' (by exact tP HO680.out) (Kd.R_base ho0) hb);have n3_ := aM (Kd.R_lower (Kd.R_new' ho0 (Kd.R_lt (by exact rP HO673.out))) (below_size (by exact bB)));have n4_ := aM (kB hb BK669.out);have n5_ := aM (kB hb BK681.out);have n6_ := aM (below_step (by exact bB) hb);clear HO673;clear HO677;clear HO680;clear BK669;clear BK681;clear HB;have HO673 := n0_;have HO677 := n1_;have HO680 := n2_;have HO684 := n3_;have BK669 := n4_;have BK681 := n5_;have HB := n6_;clear n0_ n1_ n2_ n3_ n4_ n5_ n6_;(try clear hb);(try clear ho0);have hcz46_0 := bC0 BK681.out;have hcz46_1 := bC1 BK681.out;have hcz46_2 := bC2 BK681.out;have hfz46_0 := blk_frozen BK681.out 0;have hfz46_1 := blk_frozen BK681.out 1;have hfz46_2 := blk_frozen BK681.out 2) | ((with_reducible refine gate_callee (f := 46) rfl ?_);refine goesL_ (some 28) rfl rfl Tryd.func46 (by kernel_rfl) rfl #[.pointer (some ⟨gb681, 0, none⟩), .slice A1 l1.length c1] rfl mM ?_;(with_reducible refine (impl_valPlace.calls gb681 k t674 Ao40 co40 t675 Ao41 co41 t678 _ _ l1 t685 _ ?side1 ?side2 ?side3 ?side4 ?side5 ?side6 A10.out ?sideG).mono ?_);(case sideG => exact kP BK681.out);(case side1 => exact cP (Kd.S_reads' HO677.out).2.2);(case side2 => exact (Kd.S_reads' HO677.out).2.1);(case side3 => exact cP (Kd.S_reads' HO680.out).2.2);(case side4 => exact (Kd.S_reads' HO680.out).2.1);(case side5 => exact cP (Kd.C_below HR1.out HB.out));(case side6 => exact HC1.out);rintro e w47 ⟨rfl, hb⟩;refine ⟨_, rfl, ?_⟩;have n0_ := aM (Kd.R_below (by exact rP HO673.out) hb);have n1_ := aM (Kd.S_below (by exact tP HO677.out) hb);have n2_ := aM (Kd.S_below (by exact tP HO680.out) hb);have n3_ := aM (Kd.R_below (by exact rP HO684.out) hb);have n4_ := aM (kB hb BK669.out);have n5_ := aM (kB hb BK681.out);have n6_ := aM (below_step (by exact bB) hb);clear HO673;clear HO677;clear HO680;clear HO684;clear BK669;clear BK681;clear HB;have HO673 := n0_;have HO677 := n1_;have HO680 := n2_;have HO684 := n3_;have BK669 := n4_;have BK681 := n5_;have HB := n6_;clear n0_ n1_ n2_ n3_ n4_ n5_ n6_;(try clear hb);obtain ⟨Ao48, co48, eo48⟩ := Kd.R_slice HO684.out;subst eo48) | ((with_reducible refine gate_callee (f := 54) rfl ?_);refine goesL_ (some 30) rfl rfl Tryd.func54 (by kernel_rfl) rfl #[.pointer (some ⟨gb681, 0, none⟩), .slice Ao48 t682.length co48, .int .i64 t685, .int .i64 a2] rfl mM ?_;(with_reducible refine (impl_valBest.calls gb681 k t674 Ao40 co40 t675 Ao41 co41 t678 _ _ t682 t685 a2 t686 _ ?side1 ?side2 ?side3 ?side4 ?side5 ?side6 ?sideF A11.out ?sideG).mono ?_);(case sideG => exact kP BK681.out);(case sideF => exact best_ne HO684.out BK681.out);(case side1 => exact cP (Kd.S_reads' HO677.out).2.2);(case side2 => exact (Kd.S_reads' HO677.out).2.1);(case side3 => exact cP (Kd.S_reads' HO680.out).2.2);(case side4 => exact (Kd.S_reads' HO680.out).2.1);(case side5 => exact cP (Kd.R_reads' HO684.out).2.2);(case side6 => exact (Kd.R_reads' HO684.out).2.1);rintro e w49 ⟨rfl, hb⟩;refine ⟨_, rfl, ?_⟩;have n0_ := aM (Kd.R_below (by exact rP HO673.out) hb);have n1_ := aM (Kd.S_below (by exact tP HO677.out) hb);have n2_ := aM (Kd.S_below (by exact tP HO680.out) hb);have n3_ := aM (Kd.R_below (by exact rP HO684.out) hb);have n4_ := aM (kB hb BK669.out);have n5_ := aM (kB hb BK681.out);have n6_ := aM (below_step (by exact bB) hb);clear HO673;clear HO677;clear HO680;clear HO684;clear BK669;clear BK681;clear HB;have HO673 := n0_;have HO677 := n1_;have HO680 := n2_;have HO684 := n3_;have BK669 := n4_;have BK681 := n5_;have HB := n6_;clear n0_ n1_ n2_ n3_ n4_ n5_ n6_;(try clear hb);have hcz50_0 := bC0 BK681.out;have hcz50_1 := bC1 BK681.out;have hcz50_2 := bC2 BK681.out;have hfz50_0 := blk_frozen BK681.out 0;have hfz50_1 := blk_frozen BK681.out 1;have hfz50_2 := blk_frozen BK681.out 2;have p687 : 0 ≤ (t686 : Int) := oA;have q687 : t686 < (t675.length : Int) := oA;obtain ⟨ad687, A687_0, c687_0, e687, hx687_0, hl687_0, hi687_0⟩ := at_L2 (Kd.S_reads' HO677.out).2.2 t686 p687 q687;cases e687;obtain ⟨ce687, hce687, hMe687, hcc687⟩ := Kd.S_get HO677.out [] t686 p687 (by first | exact q687 | exact oA | (have e_ := (Kd.S_reads' HO677.out).1;omega));obtain ⟨ve687_0, rfl, ge687_0⟩ := hMe687;have hv687_0 := hcc687 0 _ rfl;rw [Nat.add_zero, show ((Kd.slice 3 (Kd.int .i64))).sz = 1 from rfl, Nat.mul_one] at hv687_0;replace hv687_0 := Option.some.inj (hv687_0.symm.trans hx687_0);rw [hv687_0] at ge687_0;have HL687_0 := aM (show Kd.R (Kd.int .i64) 3 _ _ _ _ (rd_L2 t675 t686) from ge687_0);clear hv687_0 ge687_0;clear hcc687 hce687;have HR687_0 := Aside0.mk hi687_0;have HC687_0 := Aside0.mk hl687_0;clear hi687_0 hl687_0;replace p687 := eq_true p687;replace q687 := eq_true q687) | ((with_reducible refine gate_callee (f := 55) rfl ?_);refine goesL_ (some 40) rfl rfl Tryd.func55 (by kernel_rfl) rfl #[.slice A687_0 (rd_L2 t675 t686).length c687_0] rfl mM ?_;(with_reducible refine (slices_Clone_int_int.calls _ _ (rd_L2 t675 t686) t688 _ ?side1 ?side2 A32.out).mono ?_);(case side1 => exact cP (by repeat (first | (with_reducible exact HR687_0.out) | (with_reducible refine Kd.C_alloc ?_ _) | (with_reducible refine Kd.C_drewN ?_ _) | (with_reducible refine Kd.C_drew ?_) | exact HR687_0.out)));(case side2 => exact HC687_0.out);rintro e w51 ⟨v689, rfl, ho0, hb⟩;refine ⟨_, rfl, ?_⟩;have n0_ := aM (Kd.R_elder' (by exact rP HO673.out) (Kd.R_base ho0) hb);have n1_ := aM (Kd.S_elder' (by exact tP HO677.out) (Kd.R_base ho0) hb);have n2_ := aM (Kd.S_elder' (by exact tP HO680.out) (Kd.R_base ho0) hb);have n3_ := aM (Kd.R_elder' (by exact rP HO684.out) (Kd.R_base ho0) hb);have n4_ := aM (Kd.R_elder' (by exact rP HL687_0.out) (Kd.R_base ho0) hb);have n5_ := aM (Kd.R_lower (Kd.R_new' (Kd.R_new' (Kd.R_new' ho0 (Kd.R_lt (by exact rP HO673.out))) (Kd.R_lt (by exact rP HO684.out))) (Kd.R_lt (by exact rP HL687_0.out))) (below_size (by exact bB)));have n6_ := aM (kB hb BK669.out);have n7_ := aM (kB hb BK681.out);have n8_ := aM (Kd.C_below (by repeat (first | (with_reducible exact HR687_0.out) | (with_reducible refine Kd.C_alloc ?_ _) | (with_reducible refine Kd.C_drewN ?_ _) | (with_reducible refine Kd.C_drew ?_) | exact HR687_0.out)) hb);have n9_ := aM (below_step (by exact bB) hb);clear HO673;clear HO677;clear HO680;clear HO684;clear HL687_0;clear BK669;clear BK681;clear HR687_0;clear HB;have HO673 := n0_;have HO677 := n1_;have HO680 := n2_;have HO684 := n3_;have HL687_0 := n4_;have HO690 := n5_;have BK669 := n6_;have BK681 := n7_;have HR687_0 := n8_;have HB := n9_;clear n0_ n1_ n2_ n3_ n4_ n5_ n6_ n7_ n8_ n9_;(try clear hb);(try clear ho0)))
 go_ret2
 exact ⟨_, eW, by refine rP ?_;exact Kd.R_mono HO690.out (fun _ hk => trivial), by exact bB⟩


end Go.Proofs.YtgahlimikndecaaDoor.QBestAnswer
