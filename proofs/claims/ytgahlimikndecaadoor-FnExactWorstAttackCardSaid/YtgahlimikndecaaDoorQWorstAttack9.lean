import Derived.Test.YtgahlimikndecaaDoorQWorstAttack0
import Derived.Test.YtgahlimikndecaaDoorQWorstAttack5
import Derived.Test.YtgahlimikndecaaDoorQWorstAttack7
import Derived.Test.YtgahlimikndecaaDoorQWorstAttack8
namespace Go.Proofs.YtgahlimikndecaaDoor.QWorstAttack
open Go.RowKit Go.Proofs.YtgahlimikndecaaDoorW.PrintWords Go.Proofs.YtgahlimikndecaaDoorW.PrintLast Go.Proofs.YtgahlimikndecaaDoorW.PrintMore
attribute [local go_sem] max2_int min2_int max_two min_two max_three min_three max_four min_four   -- for this text's walks alone
set_option linter.unusedVariables false
set_option linter.unusedSimpArgs false
set_option maxRecDepth 100000
set_option maxHeartbeats 8000000
/-! ### slices_BinarySearchFunc_int_int_int: function 78 -/
def slices_BinarySearchFunc_int_int_int.l0 : Nat → List (List Int) → List Int → Int → Int → Int → Option (Int × Bool)
 | 0, _, _, _, _, _ => none
 | k + 1, x0, x1, x8, x9, x10 => if x9 < x10 then (if 0 ≤ (wrap64 ((IntKind.u64.wrap (wrap64 (x9 + x10))) / 2)) then (if (wrap64 ((IntKind.u64.wrap (wrap64 (x9 + x10))) / 2)) < (x0.length : Int) then ((slices_Compare_int_int.f k (rd_L2 x0 (wrap64 ((IntKind.u64.wrap (wrap64 (x9 + x10))) / 2))) x1).bind fun t576 => (if t576 < 0 then (slices_BinarySearchFunc_int_int_int.l0 k x0 x1 x8 (wrap64 ((wrap64 ((IntKind.u64.wrap (wrap64 (x9 + x10))) / 2)) + 1)) x10) else (slices_BinarySearchFunc_int_int_int.l0 k x0 x1 x8 x9 (wrap64 ((IntKind.u64.wrap (wrap64 (x9 + x10))) / 2))))) else (none)) else (none)) else (if x9 < x8 then (if 0 ≤ x9 then (if x9 < (x0.length : Int) then ((slices_Compare_int_int.f k (rd_L2 x0 x9) x1).bind fun t578 => (some (x9, (t578 == 0)))) else (none)) else (none)) else (some (x9, false)))
def slices_BinarySearchFunc_int_int_int.f (k : Nat) (l0 : List (List Int)) (l1 : List Int) : Option (Int × Bool) := slices_BinarySearchFunc_int_int_int.l0 k l0 l1 (l0.length : Int) 0 (l0.length : Int)
theorem slices_BinarySearchFunc_int_int_int.mono_l : ∀ k, (∀ y0 y1 y2 y3 y4, LeO (slices_BinarySearchFunc_int_int_int.l0 k y0 y1 y2 y3 y4) (slices_BinarySearchFunc_int_int_int.l0 (k + 1) y0 y1 y2 y3 y4))
 | 0 => fun _ _ _ _ _ r h => by simp [slices_BinarySearchFunc_int_int_int.l0] at h
 | k + 1 => by
  have ih0 := slices_BinarySearchFunc_int_int_int.mono_l k
  ·intro y0 y1 y2 y3 y4
   unfold slices_BinarySearchFunc_int_int_int.l0
   repeat' first
   | (with_reducible exact ih0 _ _ _ _ _)
   | (with_reducible exact slices_Compare_int_int.mono _ _ _)
   | (with_reducible exact LeO.refl _)
   | (with_reducible exact LeO.none _)
   | (with_reducible refine LeO.ite ?_ ?_)
   | (with_reducible refine LeO.bind ?_ (fun _ => ?_))
   | exact LeO.none _
   | refine LeO.ite ?_ ?_
   | refine LeO.bind ?_ (fun _ => ?_)
theorem slices_BinarySearchFunc_int_int_int.mono : ∀ a0 a1 k, LeO (slices_BinarySearchFunc_int_int_int.f k a0 a1) (slices_BinarySearchFunc_int_int_int.f (k + 1) a0 a1) := by
 intro a0 a1 k
 have ih0 := slices_BinarySearchFunc_int_int_int.mono_l k
 unfold slices_BinarySearchFunc_int_int_int.f
 repeat' first
   | (with_reducible exact ih0 _ _ _ _ _)
   | (with_reducible exact slices_Compare_int_int.mono _ _ _)
   | (with_reducible exact LeO.refl _)
   | (with_reducible exact LeO.none _)
   | (with_reducible refine LeO.ite ?_ ?_)
   | (with_reducible refine LeO.bind ?_ (fun _ => ?_))
   | exact LeO.none _
   | refine LeO.ite ?_ ?_
   | refine LeO.bind ?_ (fun _ => ?_)
theorem slices_BinarySearchFunc_int_int_int.calls (k : Nat) (A0 : Option Addr) (c0 : Nat) (l0 : List (List Int)) (A1 : Option Addr) (c1 : Nat) (l1 : List Int) (r1 : Int) (r2 : Bool) (w : World) (hr0 : Kd.C (Kd.slice 3 (Kd.int .i64)) w A0 l0.length l0) (hc0 : l0.length ≤ c0) (hr1 : Kd.C (Kd.int .i64) w A1 l1.length l1) (hc1 : l1.length ≤ c1) (h : slices_BinarySearchFunc_int_int_int.f k l0 l1 = some (r1, r2)) :
  Calls Tryd.prog 78 #[.slice A0 l0.length c0, .slice A1 l1.length c1, .func (.func 59) #[] #[]] w fun e w' => e = .returned (.tuple #[.int .i64 r1, .bool r2]) ∧ Drawn0 w w' := by
 have HR0 := Aside0.mk hr0
 have HC0 := Aside0.mk hc0
 clear hr0 hc0
 have HR1 := Aside0.mk hr1
 have HC1 := Aside0.mk hc1
 clear hr1 hc1
 have H : (slices_BinarySearchFunc_int_int_int.l0 k l0 l1 (l0.length : Int) 0 (l0.length : Int)) = some (r1, r2) := h
 clear h
 have H' := Aside0.mk H
 clear H
 have eg := enters_of Tryd.func59 (by kernel_rfl) rfl
 go_enter Tryd.func78, Tryd.ntmps78
 go_wp2
 go_loopg [9, 10] k (fun kq v9 v10 w' => ∃ (x9_1 : Int) (x10_1 : Int), v9 = .int .i64 x9_1 ∧ v10 = .int .i64 x10_1 ∧ Aside0 (slices_BinarySearchFunc_int_int_int.l0 kq l0 l1 (l0.length : Int) x9_1 x10_1 = some (r1, r2)) ∧ Aside0 (kq ≤ k) ∧ Drawn0 w w')
 case atStart => exact ⟨(0), ((l0.length : Int)), eF, eF, H', ⟨Nat.le_refl _⟩, dR⟩
 case round =>
  clear H'
  try clear c1
  try clear p2
  obtain ⟨x9_1, x10_1, rfl, rfl, HA, HK1, ⟨m1, rfl⟩⟩ := hrel
  cases gk with
  | zero => exact absurd HA.out (by simp [slices_BinarySearchFunc_int_int_int.l0])
  | succ k1 =>
   have H := HA.out
   clear HA
   simp only [slices_BinarySearchFunc_int_int_int.l0] at H
   by_cases c3 : x9_1 < x10_1
   rotate_left
   ·rw [if_neg c3] at H
    have c3b0 : decide (x9_1 < x10_1) = false := decide_eq_false c3
    clear c3
    by_cases c9 : x9_1 < (l0.length : Int)
    rotate_left
    ·rw [if_neg c9] at H
     have c9b0 : decide (x9_1 < (l0.length : Int)) = false := decide_eq_false c9
     clear c9
     simp only [Option.some.injEq, Prod.mk.injEq] at H
     obtain ⟨rfl, rfl⟩ := H
     go_wp2
     go_ret2
     exact ⟨eF, dR⟩
    rw [if_pos c9] at H
    have c9b0 : decide (x9_1 < (l0.length : Int)) = true := decide_eq_true c9
    clear c9
    by_cases c10 : 0 ≤ x9_1
    rotate_left
    ·rw [if_neg c10] at H
     exact absurd H (by simp)
    rw [if_pos c10] at H
    have c10b0 : decide (0 ≤ x9_1) = true := decide_eq_true c10
    clear c10
    by_cases c11 : x9_1 < (l0.length : Int)
    rotate_left
    ·rw [if_neg c11] at H
     exact absurd H (by simp)
    rw [if_pos c11] at H
    have c11b0 : decide (x9_1 < (l0.length : Int)) = true := decide_eq_true c11
    clear c11
    replace H := Option.bind_eq_some_iff.mp H
    obtain ⟨t578, A120, H⟩ := H
    replace H : (some (x9_1, (t578 == 0))) = some (r1, r2) := H
    have A12 := Aside0.mk A120
    clear A120
    simp only [Option.some.injEq, Prod.mk.injEq] at H
    obtain ⟨rfl, rfl⟩ := H
    have p577 : 0 ≤ (x9_1 : Int) := oA
    have q577 : x9_1 < (l0.length : Int) := oA
    obtain ⟨ad577, A577_0, c577_0, e577, hx577_0, hl577_0, hi577_0⟩ := at_L2 HR0.out x9_1 p577 q577
    cases e577
    have HR577_0 := Aside0.mk hi577_0
    have HC577_0 := Aside0.mk hl577_0
    clear hi577_0 hl577_0
    replace p577 := eq_true p577
    replace q577 := eq_true q577
    go_wp2_with (first | (go_at_call 59;(with_reducible refine (slices_Compare_int_int.calls k1 _ _ (rd_L2 l0 x9_1) _ _ l1 t578 _ ?side1 ?side2 ?side3 ?side4 A12.out).mono ?_);(case side1 => exact cP HR577_0.out);(case side2 => exact HC577_0.out);(case side3 => exact cP HR1.out);(case side4 => exact HC1.out);rintro e w' ⟨rfl, ⟨nd, rfl⟩⟩))
    go_ret2
    exact ⟨eF, dR⟩
   rw [if_pos c3] at H
   have c3b0 : decide (x9_1 < x10_1) = true := decide_eq_true c3
   clear c3
   obtain ⟨ji4, hji4⟩ : ∃ j_ : Int, (wrap64 ((IntKind.u64.wrap (wrap64 (x9_1 + x10_1))) / 2)) = j_ := ⟨_, rfl⟩
   replace H : (if 0 ≤ (ji4) then (if (ji4) < (l0.length : Int) then ((slices_Compare_int_int.f k1 (rd_L2 l0 (ji4)) l1).bind fun t576 => (if t576 < 0 then (slices_BinarySearchFunc_int_int_int.l0 k1 l0 l1 (l0.length : Int) (wrap64 ((ji4) + 1)) x10_1) else (slices_BinarySearchFunc_int_int_int.l0 k1 l0 l1 (l0.length : Int) x9_1 ji4))) else (none)) else (none)) = some (r1, r2) := by first | (rw [hji4] at H;exact H) | (simp only [hji4] at H ⊢;exact H)
   have hji4w : (IntKind.i64.wrap ((IntKind.u64.wrap (wrap64 (x9_1 + x10_1))) / 2)) = ji4 := (i64_w _).trans hji4
   by_cases c5 : 0 ≤ (ji4)
   rotate_left
   ·rw [if_neg c5] at H
    exact absurd H (by simp)
   rw [if_pos c5] at H
   have c5b0 : decide (0 ≤ (ji4)) = true := decide_eq_true c5
   clear c5
   by_cases c6 : (ji4) < (l0.length : Int)
   rotate_left
   ·rw [if_neg c6] at H
    exact absurd H (by simp)
   rw [if_pos c6] at H
   have c6b0 : decide ((ji4) < (l0.length : Int)) = true := decide_eq_true c6
   clear c6
   replace H := Option.bind_eq_some_iff.mp H
   obtain ⟨t576, A70, H⟩ := H
   replace H : (if t576 < 0 then (slices_BinarySearchFunc_int_int_int.l0 k1 l0 l1 (l0.length : Int) (wrap64 ((ji4) + 1)) x10_1) else (slices_BinarySearchFunc_int_int_int.l0 k1 l0 l1 (l0.length : Int) x9_1 ji4)) = some (r1, r2) := H
   have A7 := Aside0.mk A70
   clear A70
   by_cases c8 : t576 < 0
   rotate_left
   ·rw [if_neg c8] at H
    have c8b0 : decide (t576 < 0) = false := decide_eq_false c8
    clear c8
    have H' := Aside0.mk H
    clear H
    have p575 : 0 ≤ ((ji4) : Int) := oA
    have q575 : (ji4) < (l0.length : Int) := oA
    obtain ⟨ad575, A575_0, c575_0, e575, hx575_0, hl575_0, hi575_0⟩ := at_L2 HR0.out (ji4) p575 q575
    cases e575
    have HR575_0 := Aside0.mk hi575_0
    have HC575_0 := Aside0.mk hl575_0
    clear hi575_0 hl575_0
    replace p575 := eq_true p575
    replace q575 := eq_true q575
    go_wp2_with (first | (go_at_call 59;(with_reducible refine (slices_Compare_int_int.calls k1 _ _ (rd_L2 l0 (ji4)) _ _ l1 t576 _ ?side1 ?side2 ?side3 ?side4 A7.out).mono ?_);(case side1 => exact cP HR575_0.out);(case side2 => exact HC575_0.out);(case side3 => exact cP HR1.out);(case side4 => exact HC1.out);rintro e w' ⟨rfl, ⟨nd, rfl⟩⟩))
    go_roundg k1
    case measure => have := HK1.out;omega
    case rel => exact ⟨(x9_1), (ji4), eF, (by first | rfl | (simp;done) | (simp only [← hji4] <;> (first | rfl | simp)) | (simp [*];done)), H', ⟨by have := HK1.out;omega⟩, dR⟩
   rw [if_pos c8] at H
   have c8b0 : decide (t576 < 0) = true := decide_eq_true c8
   clear c8
   have H' := Aside0.mk H
   clear H
   have p575 : 0 ≤ ((ji4) : Int) := oA
   have q575 : (ji4) < (l0.length : Int) := oA
   obtain ⟨ad575, A575_0, c575_0, e575, hx575_0, hl575_0, hi575_0⟩ := at_L2 HR0.out (ji4) p575 q575
   cases e575
   have HR575_0 := Aside0.mk hi575_0
   have HC575_0 := Aside0.mk hl575_0
   clear hi575_0 hl575_0
   replace p575 := eq_true p575
   replace q575 := eq_true q575
   go_wp2_with (first | (go_at_call 59;(with_reducible refine (slices_Compare_int_int.calls k1 _ _ (rd_L2 l0 (ji4)) _ _ l1 t576 _ ?side1 ?side2 ?side3 ?side4 A7.out).mono ?_);(case side1 => exact cP HR575_0.out);(case side2 => exact HC575_0.out);(case side3 => exact cP HR1.out);(case side4 => exact HC1.out);rintro e w' ⟨rfl, ⟨nd, rfl⟩⟩))
   go_roundg k1
   case measure => have := HK1.out;omega
   case rel => exact ⟨(wrap64 ((ji4) + 1)), (x10_1), (by first | rfl | (simp;done) | (simp only [← hji4] <;> (first | rfl | simp)) | (simp [*];done)), eF, H', ⟨by have := HK1.out;omega⟩, dR⟩


/-! ### impl_endless: function 49 -/
def impl_endless.f (a0 : Int) : Option (Int) := if a0 < 0 then (some 1000000) else (some a0)
theorem impl_endless.calls (a0 : Int) (r : Int) (w : World) (h : impl_endless.f a0 = some r) :
  Calls Tryd.prog 49 #[.int .i64 a0] w fun e w' => e = .returned (.int .i64 r) ∧ Drawn0 w w' := by
 have H : (if a0 < 0 then (some 1000000) else (some a0)) = some r := h
 clear h
 by_cases c2 : a0 < 0
 rotate_left
 ·rw [if_neg c2] at H
  have c2b0 : decide (a0 < 0) = false := decide_eq_false c2
  clear c2
  obtain rfl := Option.some.inj H
  go_enter Tryd.func49, Tryd.ntmps49
  go_wp2
  go_ret
  exact ⟨eF, dR⟩
 rw [if_pos c2] at H
 have c2b0 : decide (a0 < 0) = true := decide_eq_true c2
 clear c2
 obtain rfl := Option.some.inj H
 go_enter Tryd.func49, Tryd.ntmps49
 go_wp2
 go_ret
 exact ⟨eF, dR⟩


/-! ### impl_valResist: by hand -/
def impl_valResist.f (k : Nat) (n : Int) (s m : List (List Int)) : Option (List Int) := (impl_guardGame_resist.f k n s m).bind fun r => some r.1
theorem impl_valResist.mono : ∀ a0 a1 a2 k, LeO (impl_valResist.f k a0 a1 a2) (impl_valResist.f (k + 1) a0 a1 a2) := by
 intro a0 a1 a2 k
 unfold impl_valResist.f
 exact LeO.bind (impl_guardGame_resist.mono _ _ _ _) (fun r => LeO.refl _)
theorem impl_valResist.calls (gb k : Nat) (n : Int) (A1 : Option Addr) (c1 : Nat) (s : List (List Int)) (A2 : Option Addr) (c2 : Nat) (m : List (List Int)) (r : List Int) (w : World) (hr1 : Kd.C (Kd.slice 3 (Kd.int .i64)) w A1 s.length s) (_hc1 : s.length ≤ c1) (hr2 : Kd.C (Kd.slice 3 (Kd.int .i64)) w A2 m.length m) (_hc2 : m.length ≤ c2) (h : impl_valResist.f k n s m = some r) (hbx : w.heap[gb]? = some (.cells #[.int .i64 n, .slice A1 s.length c1, .slice A2 m.length c2] 61 (0, 0))) :
  Calls Tryd.prog 34 #[.pointer (some ⟨gb, 0, none⟩)] w fun e w' => ∃ v0_ : Value, e = .returned v0_ ∧ Kd.R (Kd.int .i64) 3 w' w.heap.size (fun _ => True) v0_ r ∧ Below w.heap.size w w' := by
 unfold impl_valResist.f at h
 obtain ⟨⟨r1, r2⟩, h1, h2⟩ := Option.bind_eq_some_iff.1 h
 obtain rfl := Option.some.inj h2
 refine (impl_guardGame_resist.calls k gb n s m r1 r2 w w ⟨A1, c1, A2, c2, hbx, trivial, hr1, hr2⟩ (Below.refl _ _) h1).mono ?_
 rintro e w' ⟨v, rfl, hR, _, hB, _⟩
 exact ⟨v, rfl, hR, hB⟩

/-! ### impl_valAnswers: by hand -/
def impl_valAnswers.f (n : Int) (s m : List (List Int)) (a b : Int) : Option (List Int) := (impl_guardGame_answers.f n s m a b).bind fun r => some r.1
theorem impl_valAnswers.calls (gb : Nat) (n : Int) (A1 : Option Addr) (c1 : Nat) (s : List (List Int)) (A2 : Option Addr) (c2 : Nat) (m : List (List Int)) (a b : Int) (r : List Int) (w : World) (hr1 : Kd.C (Kd.slice 3 (Kd.int .i64)) w A1 s.length s) (_hc1 : s.length ≤ c1) (hr2 : Kd.C (Kd.slice 3 (Kd.int .i64)) w A2 m.length m) (_hc2 : m.length ≤ c2) (h : impl_valAnswers.f n s m a b = some r) (hbx : w.heap[gb]? = some (.cells #[.int .i64 n, .slice A1 s.length c1, .slice A2 m.length c2] 61 (0, 0))) :
  Calls Tryd.prog 48 #[.pointer (some ⟨gb, 0, none⟩), .int .i64 a, .int .i64 b] w fun e w' => ∃ v0_ : Value, e = .returned v0_ ∧ Kd.R (Kd.int .i64) 3 w' w.heap.size (fun _ => True) v0_ r ∧ Below w.heap.size w w' := by
 unfold impl_valAnswers.f at h
 obtain ⟨⟨r1, r2⟩, h1, h2⟩ := Option.bind_eq_some_iff.1 h
 obtain rfl := Option.some.inj h2
 refine (impl_guardGame_answers.calls gb n s m a b r1 r2 w w ⟨A1, c1, A2, c2, hbx, trivial, hr1, hr2⟩ (Below.refl _ _) h1).mono ?_
 rintro e w' ⟨v, rfl, hR, _, hB, _⟩
 exact ⟨v, rfl, hR, hB⟩

/-! ### impl_valPlace: by hand -/
def impl_valPlace.f (k : Nat) (_n : Int) (s _m : List (List Int)) (l : List Int) : Option Int := (slices_BinarySearchFunc_int_int_int.f k s l).bind fun r => some r.1
theorem impl_valPlace.mono : ∀ a0 a1 a2 a3 k, LeO (impl_valPlace.f k a0 a1 a2 a3) (impl_valPlace.f (k + 1) a0 a1 a2 a3) := by
 intro a0 a1 a2 a3 k
 unfold impl_valPlace.f
 exact LeO.bind (slices_BinarySearchFunc_int_int_int.mono _ _ _) (fun r => LeO.refl _)
theorem impl_valPlace.calls (gb k : Nat) (n : Int) (A1 : Option Addr) (c1 : Nat) (s : List (List Int)) (A2 : Option Addr) (c2 : Nat) (m : List (List Int)) (A : Option Addr) (c : Nat) (l : List Int) (r : Int) (w : World) (hr1 : Kd.C (Kd.slice 3 (Kd.int .i64)) w A1 s.length s) (hc1 : s.length ≤ c1) (_hr2 : Kd.C (Kd.slice 3 (Kd.int .i64)) w A2 m.length m) (_hc2 : m.length ≤ c2) (hr : Kd.C (Kd.int .i64) w A l.length l) (hc : l.length ≤ c) (h : impl_valPlace.f k n s m l = some r) (hbx : w.heap[gb]? = some (.cells #[.int .i64 n, .slice A1 s.length c1, .slice A2 m.length c2] 61 (0, 0))) :
  Calls Tryd.prog 46 #[.pointer (some ⟨gb, 0, none⟩), .slice A l.length c] w fun e w' => e = .returned (.int .i64 r) ∧ Below w.heap.size w w' := by
 have hu := Tryd.underlying61
 unfold impl_valPlace.f at h
 obtain ⟨⟨r1, r2⟩, h1, h2⟩ := Option.bind_eq_some_iff.1 h
 obtain rfl := Option.some.inj h2
 have hcz : w.cell? ⟨gb, 1, none⟩ = some (.slice A1 s.length c1) := (blk_cell hbx 1).trans rfl
 have hfz := blk_frozen hbx 1
 have A5 := Aside0.mk h1
 have HR1 := Aside0.mk hr1
 have HR := Aside0.mk hr
 have HC1 := Aside0.mk hc1
 have HC := Aside0.mk hc
 clear h h1 h2 hbx hr1 hr hc1 hc
 go_enter Tryd.func46, Tryd.ntmps46
 go_wp2_with (first
  | (go_at_call 78;(with_reducible refine (slices_BinarySearchFunc_int_int_int.calls k _ _ s _ _ l r1 r2 _ ?side1 ?side2 ?side3 ?side4 A5.out).mono ?_);(case side1 => exact cP HR1.out);(case side2 => exact HC1.out);(case side3 => exact cP HR.out);(case side4 => exact HC.out);rintro e w' ⟨rfl, ⟨nd, rfl⟩⟩))
 go_ret
 exact ⟨rfl, by repeat (first | exact Below.refl _ _ | apply pw_below_drewN)⟩

/-! ### impl_WorstAttack: function 18 -/
mutual
def impl_WorstAttack.l0 : Nat → List Int → List Int → Int → Int → Int → Int → Int → Int → List (List Int) → List (List Int) → Option (Int × Bool)
 | 0, _, _, _, _, _, _, _, _, _, _ => none
 | k + 1, x1, x9, x10, x11, x12, x38, x39, x670000, x670001, x670002 => if x39 < x38 then ((slices_Contains_int_int.f k x1 x39).bind fun t675 => (if t675 = true then (impl_WorstAttack.l0 k x1 x9 x10 x11 x12 x38 (wrap64 (x39 + 1)) x670000 x670001 x670002) else ((impl_valAnswers.f x670000 x670001 x670002 x10 x39).bind fun t676 => (impl_WorstAttack.l1 k x1 x9 x10 x11 x12 x39 (-1) x38 x39 t676 (t676.length : Int) 0 x670000 x670001 x670002)))) else (some (x11, true))
def impl_WorstAttack.l1 : Nat → List Int → List Int → Int → Int → Int → Int → Int → Int → Int → List Int → Int → Int → Int → List (List Int) → List (List Int) → Option (Int × Bool)
 | 0, _, _, _, _, _, _, _, _, _, _, _, _, _, _, _ => none
 | k + 1, x1, x9, x10, x11, x12, x13, x14, x38, x39, x48, x49, x50, x670000, x670001, x670002 => if x50 < x49 then (if 0 ≤ x50 then (if x50 < (x48.length : Int) then (if 0 ≤ (rd x48 x50) then (if (rd x48 x50) < (x9.length : Int) then ((impl_endless.f (rd x9 (rd x48 x50))).bind fun t681 => (impl_WorstAttack.l1 k x1 x9 x10 x11 x12 x13 (mx x14 t681) x38 x39 x48 x49 (wrap64 (x50 + 1)) x670000 x670001 x670002)) else (none)) else (none)) else (none)) else (none)) else (if x11 < 0 then (impl_WorstAttack.l0 k x1 x9 x10 x13 x14 x38 (wrap64 (x39 + 1)) x670000 x670001 x670002) else (if x14 < x12 then (impl_WorstAttack.l0 k x1 x9 x10 x13 x14 x38 (wrap64 (x39 + 1)) x670000 x670001 x670002) else (impl_WorstAttack.l0 k x1 x9 x10 x11 x12 x38 (wrap64 (x39 + 1)) x670000 x670001 x670002)))
end
def impl_WorstAttack.f (k : Nat) (a0_0 : Int) (l0_1 : List (S78)) (l1 : List Int) (a2 : Bool) : Option (Int × Bool) := (impl_isSet.f k a0_0 l0_1 l1).bind fun t658 => (if t658 = true then ((impl_netOf.f a0_0 l0_1).bind fun t659 => ((impl_net_guardGame.f k t659 (l1.length : Int) a2).bind fun bt662 => ((impl_valResist.f k bt662.1 bt662.2.1 bt662.2.2).bind fun t670 => ((impl_valPlace.f k bt662.1 bt662.2.1 bt662.2.2 l1).bind fun t673 => (if 0 ≤ t673 then (if t673 < (t670.length : Int) then (if (rd t670 t673) < 0 then (some (0, false)) else (impl_WorstAttack.l0 k l1 t670 t673 (-1) 0 a0_0 0 bt662.1 bt662.2.1 bt662.2.2)) else (none)) else (none)))))) else (some (0, false)))
theorem impl_WorstAttack.mono_l : ∀ k, (∀ y0 y1 y2 y3 y4 y5 y6 y7 y8 y9, LeO (impl_WorstAttack.l0 k y0 y1 y2 y3 y4 y5 y6 y7 y8 y9) (impl_WorstAttack.l0 (k + 1) y0 y1 y2 y3 y4 y5 y6 y7 y8 y9)) ∧ (∀ y0 y1 y2 y3 y4 y5 y6 y7 y8 y9 y10 y11 y12 y13 y14, LeO (impl_WorstAttack.l1 k y0 y1 y2 y3 y4 y5 y6 y7 y8 y9 y10 y11 y12 y13 y14) (impl_WorstAttack.l1 (k + 1) y0 y1 y2 y3 y4 y5 y6 y7 y8 y9 y10 y11 y12 y13 y14))
 | 0 => ⟨fun _ _ _ _ _ _ _ _ _ _ r h => by simp [impl_WorstAttack.l0] at h, fun _ _ _ _ _ _ _ _ _ _ _ _ _ _ _ r h => by simp [impl_WorstAttack.l1] at h⟩
 | k + 1 => by
  obtain ⟨ih0, ih1⟩ := impl_WorstAttack.mono_l k
  refine ⟨?_, ?_⟩
  ·intro y0 y1 y2 y3 y4 y5 y6 y7 y8 y9
   unfold impl_WorstAttack.l0
   repeat' first
   | (with_reducible exact ih0 _ _ _ _ _ _ _ _ _ _)
   | (with_reducible exact ih1 _ _ _ _ _ _ _ _ _ _ _ _ _ _ _)
   | (with_reducible exact impl_isSet.mono _ _ _ _)
   | (with_reducible exact impl_net_guardGame.mono _ _ _ _)
   | (with_reducible exact impl_valPlace.mono _ _ _ _ _)
   | (with_reducible exact impl_valResist.mono _ _ _ _)
   | (with_reducible exact slices_Contains_int_int.mono _ _ _)
   | (with_reducible exact LeO.refl _)
   | (with_reducible exact LeO.none _)
   | (with_reducible refine LeO.ite ?_ ?_)
   | (with_reducible refine LeO.bind ?_ (fun _ => ?_))
   | exact LeO.none _
   | refine LeO.ite ?_ ?_
   | refine LeO.bind ?_ (fun _ => ?_)
  ·intro y0 y1 y2 y3 y4 y5 y6 y7 y8 y9 y10 y11 y12 y13 y14
   unfold impl_WorstAttack.l1
   repeat' first
   | (with_reducible exact ih0 _ _ _ _ _ _ _ _ _ _)
   | (with_reducible exact ih1 _ _ _ _ _ _ _ _ _ _ _ _ _ _ _)
   | (with_reducible exact impl_isSet.mono _ _ _ _)
   | (with_reducible exact impl_net_guardGame.mono _ _ _ _)
   | (with_reducible exact impl_valPlace.mono _ _ _ _ _)
   | (with_reducible exact impl_valResist.mono _ _ _ _)
   | (with_reducible exact slices_Contains_int_int.mono _ _ _)
   | (with_reducible exact LeO.refl _)
   | (with_reducible exact LeO.none _)
   | (with_reducible refine LeO.ite ?_ ?_)
   | (with_reducible refine LeO.bind ?_ (fun _ => ?_))
   | exact LeO.none _
   | refine LeO.ite ?_ ?_
   | refine LeO.bind ?_ (fun _ => ?_)
theorem impl_WorstAttack.mono : ∀ a0 a1 a2 a3 k, LeO (impl_WorstAttack.f k a0 a1 a2 a3) (impl_WorstAttack.f (k + 1) a0 a1 a2 a3) := by
 intro a0 a1 a2 a3 k
 obtain ⟨ih0, ih1⟩ := impl_WorstAttack.mono_l k
 unfold impl_WorstAttack.f
 repeat' first
   | (with_reducible exact ih0 _ _ _ _ _ _ _ _ _ _)
   | (with_reducible exact ih1 _ _ _ _ _ _ _ _ _ _ _ _ _ _ _)
   | (with_reducible exact impl_isSet.mono _ _ _ _)
   | (with_reducible exact impl_net_guardGame.mono _ _ _ _)
   | (with_reducible exact impl_valPlace.mono _ _ _ _ _)
   | (with_reducible exact impl_valResist.mono _ _ _ _)
   | (with_reducible exact slices_Contains_int_int.mono _ _ _)
   | (with_reducible exact LeO.refl _)
   | (with_reducible exact LeO.none _)
   | (with_reducible refine LeO.ite ?_ ?_)
   | (with_reducible refine LeO.bind ?_ (fun _ => ?_))
   | exact LeO.none _
   | refine LeO.ite ?_ ?_
   | refine LeO.bind ?_ (fun _ => ?_)
theorem impl_WorstAttack.calls (k : Nat) (a0_0 : Int) (A0_1 : Option Addr) (c0_1 : Nat) (l0_1 : List (S78)) (A1 : Option Addr) (c1 : Nat) (l1 : List Int) (a2 : Bool) (r1 : Int) (r2 : Bool) (w : World) (hT : TabG w) (hr0_1 : Kd.C k78 w A0_1 l0_1.length l0_1) (hc0_1 : l0_1.length ≤ c0_1) (hr1 : Kd.C (Kd.int .i64) w A1 l1.length l1) (hc1 : l1.length ≤ c1) (h : impl_WorstAttack.f k a0_0 l0_1 l1 a2 = some (r1, r2)) :
  Calls Tryd.prog 18 #[.agg #[.int .i64 a0_0, .slice A0_1 l0_1.length c0_1], .slice A1 l1.length c1, .bool a2] w fun e w' => e = .returned (.tuple #[.int .i64 r1, .bool r2]) ∧ Below w.heap.size w w' := by
 have hu29 := Tryd.underlying29
 have hu61 := Tryd.underlying61
 have HR0_1 := Aside0.mk hr0_1
 have HC0_1 := Aside0.mk hc0_1
 clear hr0_1 hc0_1
 have HR1 := Aside0.mk hr1
 have HC1 := Aside0.mk hc1
 clear hr1 hc1
 have HB := aM (Below.refl w.heap.size w)
 have HT := Aside0.mk hT
 clear hT
 have H : ((impl_isSet.f k a0_0 l0_1 l1).bind fun t658 => (if t658 = true then ((impl_netOf.f a0_0 l0_1).bind fun t659 => ((impl_net_guardGame.f k t659 (l1.length : Int) a2).bind fun bt662 => ((impl_valResist.f k bt662.1 bt662.2.1 bt662.2.2).bind fun t670 => ((impl_valPlace.f k bt662.1 bt662.2.1 bt662.2.2 l1).bind fun t673 => (if 0 ≤ t673 then (if t673 < (t670.length : Int) then (if (rd t670 t673) < 0 then (some (0, false)) else (impl_WorstAttack.l0 k l1 t670 t673 (-1) 0 a0_0 0 bt662.1 bt662.2.1 bt662.2.2)) else (none)) else (none)))))) else (some (0, false)))) = some (r1, r2) := h
 clear h
 replace H := Option.bind_eq_some_iff.mp H
 obtain ⟨t658, A40, H⟩ := H
 replace H : (if t658 = true then ((impl_netOf.f a0_0 l0_1).bind fun t659 => ((impl_net_guardGame.f k t659 (l1.length : Int) a2).bind fun bt662 => ((impl_valResist.f k bt662.1 bt662.2.1 bt662.2.2).bind fun t670 => ((impl_valPlace.f k bt662.1 bt662.2.1 bt662.2.2 l1).bind fun t673 => (if 0 ≤ t673 then (if t673 < (t670.length : Int) then (if (rd t670 t673) < 0 then (some (0, false)) else (impl_WorstAttack.l0 k l1 t670 t673 (-1) 0 a0_0 0 bt662.1 bt662.2.1 bt662.2.2)) else (none)) else (none)))))) else (some (0, false))) = some (r1, r2) := H
 have A4 := Aside0.mk A40
 clear A40
 by_cases c5 : t658 = true
 rotate_left
 ·replace c5 := Bool.eq_false_iff.mpr c5
  subst c5
  have H1 : (some (0, false)) = some (r1, r2) := by rw [if_neg (show ¬ (false = true) by decide)] at H;exact H
  clear H
  have H := H1
  clear H1
  simp only [Option.some.injEq, Prod.mk.injEq] at H
  obtain ⟨rfl, rfl⟩ := H
  go_enter Tryd.func18, Tryd.ntmps18
  go_wp2_with (first | ((with_reducible refine gate_dst (N := 3) rfl ?_);refine box_event ?hg (N := 3) ?hd (cs := #[.int .i64 a0_0, .slice A0_1 l0_1.length c0_1]) (t := 29) ?hr ?_;(case hd => rfl);(case hg => rfl);(case hr => exact gS);intro gb657 hg w63 hbox hb;have n0_ := aM (below_step (by exact bB) hb);have n1_ := aM (hbox);have n2_ := aM (sW hg : w.heap.size ≤ gb657);have n3_ := aM (sW hg : w.heap.size ≤ gb657);clear HB;have HB := n0_;have BK657 := n1_;have GW657 := n2_;have GE657 := n3_;clear n0_ n1_ n2_ n3_;clear hb hbox hg;have hcz64_0 := bC0 BK657.out;have hcz64_1 := bC1 BK657.out;have hfz64_0 := blk_frozen BK657.out 0;have hfz64_1 := blk_frozen BK657.out 1) | ((with_reducible refine gate_callee (f := 45) rfl ?_);refine goesL_ (some 19) rfl rfl Tryd.func45 (by kernel_rfl) rfl #[.agg #[.int .i64 a0_0, .slice A0_1 l0_1.length c0_1], .slice A1 l1.length c1] rfl mM ?_;(with_reducible refine (impl_isSet.calls k a0_0 _ _ l0_1 _ _ l1 false _ ?side1 ?side2 ?side3 ?side4 A4.out).mono ?_);(case side1 => exact cP (Kd.C_below HR0_1.out HB.out));(case side2 => exact HC0_1.out);(case side3 => exact cP (Kd.C_below HR1.out HB.out));(case side4 => exact HC1.out);rintro e w65 ⟨rfl, hb⟩;refine ⟨_, rfl, ?_⟩;have n0_ := aM (kB hb BK657.out);have n1_ := aM (below_step (by exact bB) hb);clear BK657;clear HB;have BK657 := n0_;have HB := n1_;clear n0_ n1_;(try clear hb)))
  go_ret2
  exact ⟨eW, by exact bB⟩
 subst c5
 have H1 : ((impl_netOf.f a0_0 l0_1).bind fun t659 => ((impl_net_guardGame.f k t659 (l1.length : Int) a2).bind fun bt662 => ((impl_valResist.f k bt662.1 bt662.2.1 bt662.2.2).bind fun t670 => ((impl_valPlace.f k bt662.1 bt662.2.1 bt662.2.2 l1).bind fun t673 => (if 0 ≤ t673 then (if t673 < (t670.length : Int) then (if (rd t670 t673) < 0 then (some (0, false)) else (impl_WorstAttack.l0 k l1 t670 t673 (-1) 0 a0_0 0 bt662.1 bt662.2.1 bt662.2.2)) else (none)) else (none)))))) = some (r1, r2) := by rw [if_pos rfl] at H;exact H
 clear H
 have H := H1
 clear H1
 replace H := Option.bind_eq_some_iff.mp H
 obtain ⟨t659, A60, H⟩ := H
 replace H : ((impl_net_guardGame.f k t659 (l1.length : Int) a2).bind fun bt662 => ((impl_valResist.f k bt662.1 bt662.2.1 bt662.2.2).bind fun t670 => ((impl_valPlace.f k bt662.1 bt662.2.1 bt662.2.2 l1).bind fun t673 => (if 0 ≤ t673 then (if t673 < (t670.length : Int) then (if (rd t670 t673) < 0 then (some (0, false)) else (impl_WorstAttack.l0 k l1 t670 t673 (-1) 0 a0_0 0 bt662.1 bt662.2.1 bt662.2.2)) else (none)) else (none))))) = some (r1, r2) := H
 have A6 := Aside0.mk A60
 clear A60
 replace H := Option.bind_eq_some_iff.mp H
 obtain ⟨⟨t662, t663, t666⟩, A70, H⟩ := H
 replace H : ((impl_valResist.f k t662 t663 t666).bind fun t670 => ((impl_valPlace.f k t662 t663 t666 l1).bind fun t673 => (if 0 ≤ t673 then (if t673 < (t670.length : Int) then (if (rd t670 t673) < 0 then (some (0, false)) else (impl_WorstAttack.l0 k l1 t670 t673 (-1) 0 a0_0 0 t662 t663 t666)) else (none)) else (none)))) = some (r1, r2) := H
 have A7 := Aside0.mk A70
 clear A70
 replace H := Option.bind_eq_some_iff.mp H
 obtain ⟨t670, A80, H⟩ := H
 replace H : ((impl_valPlace.f k t662 t663 t666 l1).bind fun t673 => (if 0 ≤ t673 then (if t673 < (t670.length : Int) then (if (rd t670 t673) < 0 then (some (0, false)) else (impl_WorstAttack.l0 k l1 t670 t673 (-1) 0 a0_0 0 t662 t663 t666)) else (none)) else (none))) = some (r1, r2) := H
 have A8 := Aside0.mk A80
 clear A80
 replace H := Option.bind_eq_some_iff.mp H
 obtain ⟨t673, A90, H⟩ := H
 replace H : (if 0 ≤ t673 then (if t673 < (t670.length : Int) then (if (rd t670 t673) < 0 then (some (0, false)) else (impl_WorstAttack.l0 k l1 t670 t673 (-1) 0 a0_0 0 t662 t663 t666)) else (none)) else (none)) = some (r1, r2) := H
 have A9 := Aside0.mk A90
 clear A90
 by_cases c10 : 0 ≤ t673
 rotate_left
 ·rw [if_neg c10] at H
  exact absurd H (by simp)
 rw [if_pos c10] at H
 have c10b0 : decide (0 ≤ t673) = true := decide_eq_true c10
 clear c10
 by_cases c11 : t673 < (t670.length : Int)
 rotate_left
 ·rw [if_neg c11] at H
  exact absurd H (by simp)
 rw [if_pos c11] at H
 have c11b0 : decide (t673 < (t670.length : Int)) = true := decide_eq_true c11
 clear c11
 by_cases c12 : (rd t670 t673) < 0
 ·rw [if_pos c12] at H
  have c12b0 : decide ((rd t670 t673) < 0) = true := decide_eq_true c12
  clear c12
  simp only [Option.some.injEq, Prod.mk.injEq] at H
  obtain ⟨rfl, rfl⟩ := H
  go_enter Tryd.func18, Tryd.ntmps18
  go_wp2_with (first | ((with_reducible refine gate_dst (N := 3) rfl ?_);refine box_event ?hg (N := 3) ?hd (cs := #[.int .i64 a0_0, .slice A0_1 l0_1.length c0_1]) (t := 29) ?hr ?_;(case hd => rfl);(case hg => rfl);(case hr => exact gS);intro gb657 hg w13 hbox hb;have n0_ := aM (below_step (by exact bB) hb);have n1_ := aM (hbox);have n2_ := aM (sW hg : w.heap.size ≤ gb657);have n3_ := aM (sW hg : w.heap.size ≤ gb657);clear HB;have HB := n0_;have BK657 := n1_;have GW657 := n2_;have GE657 := n3_;clear n0_ n1_ n2_ n3_;clear hb hbox hg;have hcz14_0 := bC0 BK657.out;have hcz14_1 := bC1 BK657.out;have hfz14_0 := blk_frozen BK657.out 0;have hfz14_1 := blk_frozen BK657.out 1) | ((with_reducible refine gate_callee (f := 45) rfl ?_);refine goesL_ (some 19) rfl rfl Tryd.func45 (by kernel_rfl) rfl #[.agg #[.int .i64 a0_0, .slice A0_1 l0_1.length c0_1], .slice A1 l1.length c1] rfl mM ?_;(with_reducible refine (impl_isSet.calls k a0_0 _ _ l0_1 _ _ l1 true _ ?side1 ?side2 ?side3 ?side4 A4.out).mono ?_);(case side1 => exact cP (Kd.C_below HR0_1.out HB.out));(case side2 => exact HC0_1.out);(case side3 => exact cP (Kd.C_below HR1.out HB.out));(case side4 => exact HC1.out);rintro e w15 ⟨rfl, hb⟩;refine ⟨_, rfl, ?_⟩;have n0_ := aM (kB hb BK657.out);have n1_ := aM (below_step (by exact bB) hb);clear BK657;clear HB;have BK657 := n0_;have HB := n1_;clear n0_ n1_;(try clear hb);have hcz16_0 := bC0 BK657.out;have hcz16_1 := bC1 BK657.out;have hfz16_0 := blk_frozen BK657.out 0;have hfz16_1 := blk_frozen BK657.out 1) | ((with_reducible refine gate_callee (f := 32) rfl ?_);refine goesL_ (some 22) rfl rfl Tryd.func32 (by kernel_rfl) rfl #[.agg #[.int .i64 a0_0, .slice A0_1 l0_1.length c0_1]] rfl mM ?_;(with_reducible refine (impl_netOf.calls a0_0 _ _ l0_1 t659 _ ?side1 ?side2 A6.out).mono ?_);(case side1 => exact cP (Kd.C_below HR0_1.out HB.out));(case side2 => exact HC0_1.out);rintro e w17 ⟨v660, rfl, ho0, hb⟩;refine ⟨_, rfl, ?_⟩;have n0_ := aM (Kd.R_lower ho0 (below_size (by exact bB)));have n1_ := aM (kB hb BK657.out);have n2_ := aM (below_step (by exact bB) hb);clear BK657;clear HB;have HO661 := n0_;have BK657 := n1_;have HB := n2_;clear n0_ n1_ n2_;(try clear hb);(try clear ho0);obtain ⟨Ao18, co18, eo18⟩ := Kd.R_slice HO661.out;subst eo18) | ((with_reducible refine gate_callee (f := 33) rfl ?_);refine goesL_ (some 26) rfl rfl Tryd.func33 (by kernel_rfl) rfl #[.agg #[.slice Ao18 t659.length co18], .int .i64 (l1.length : Int), .bool a2] rfl mM ?_;(with_reducible refine (impl_net_guardGame.calls k _ _ t659 (l1.length : Int) a2 t662 t663 t666 _ ?sideT ?side1 ?side2 A7.out).mono ?_);(case sideT => exact tabG_below HT.out (by exact bB));(case side1 => exact cP (Kd.R_reads' HO661.out).2.2);(case side2 => exact (Kd.R_reads' HO661.out).2.1);rintro e w19 ⟨gb669, v664, v667, rfl, hbx, hge, ho0, ho1, hb⟩;refine ⟨_, rfl, ?_⟩;have GW669 := aM (Nat.le_trans (below_size (by exact bB)) hge);have GE669 := GW669;have NB657_669 : Aside0 (gb657 ≠ gb669) := ⟨Nat.ne_of_lt (Nat.lt_of_lt_of_le (blk_lt (g := gb657) (o := .cells #[.int .i64 a0_0, .slice A0_1 l0_1.length c0_1] 29 (0, 0)) (by exact kP BK657.out)) hge)⟩;have NB669_657 : Aside0 (gb669 ≠ gb657) := ⟨Nat.ne_of_gt (Nat.lt_of_lt_of_le (blk_lt (g := gb657) (o := .cells #[.int .i64 a0_0, .slice A0_1 l0_1.length c0_1] 29 (0, 0)) (by exact kP BK657.out)) hge)⟩;have n0_ := aM (Kd.R_below (by exact rP HO661.out) hb);have n1_ := aM (Kd.S_lower (Kd.S_new' ho0 (Kd.R_lt (by exact rP HO661.out))) (below_size (by exact bB)));have n2_ := aM (Kd.S_lower (Kd.S_new' ho1 (Kd.R_lt (by exact rP HO661.out))) (below_size (by exact bB)));have n3_ := aM (kB hb BK657.out);have n4_ := aM (below_step (by exact bB) hb);clear HO661;clear BK657;clear HB;have HO661 := n0_;have HO665 := n1_;have HO668 := n2_;have BK657 := n3_;have HB := n4_;clear n0_ n1_ n2_ n3_ n4_;(try clear hb);(try clear ho0);(try clear ho1);obtain ⟨Ao20, co20, eo20⟩ := Kd.S_slice HO665.out;subst eo20;obtain ⟨Ao21, co21, eo21⟩ := Kd.S_slice HO668.out;subst eo21;have BK669 := Aside0.mk hbx;clear hbx hge;have hnb23 := NB669_657.out;have hnc23 := NB657_669.out;have hcz24_0 := bC0 BK669.out;have hcz24_1 := bC1 BK669.out;have hcz24_2 := bC2 BK669.out;have hfz24_0 := blk_frozen BK669.out 0;have hfz24_1 := blk_frozen BK669.out 1;have hfz24_2 := blk_frozen BK669.out 2) | ((with_reducible refine gate_callee (f := 34) rfl ?_);refine goesL_ (some 28) rfl rfl Tryd.func34 (by kernel_rfl) rfl #[.pointer (some ⟨gb669, 0, none⟩)] rfl mM ?_;(with_reducible refine (impl_valResist.calls gb669 k t662 Ao20 co20 t663 Ao21 co21 t666 t670 _ ?side1 ?side2 ?side3 ?side4 A8.out ?sideG).mono ?_);(case sideG => exact kP BK669.out);(case side1 => exact cP (Kd.S_reads' HO665.out).2.2);(case side2 => exact (Kd.S_reads' HO665.out).2.1);(case side3 => exact cP (Kd.S_reads' HO668.out).2.2);(case side4 => exact (Kd.S_reads' HO668.out).2.1);rintro e w25 ⟨v671, rfl, ho0, hb⟩;refine ⟨_, rfl, ?_⟩;have n0_ := aM (Kd.R_elder' (by exact rP HO661.out) (Kd.R_base ho0) hb);have n1_ := aM (Kd.S_elder' (by exact tP HO665.out) (Kd.R_base ho0) hb);have n2_ := aM (Kd.S_elder' (by exact tP HO668.out) (Kd.R_base ho0) hb);have n3_ := aM (Kd.R_lower (Kd.R_new' ho0 (Kd.R_lt (by exact rP HO661.out))) (below_size (by exact bB)));have n4_ := aM (kB hb BK657.out);have n5_ := aM (kB hb BK669.out);have n6_ := aM (below_step (by exact bB) hb);clear HO661;clear HO665;clear HO668;clear BK657;clear BK669;clear HB;have HO661 := n0_;have HO665 := n1_;have HO668 := n2_;have HO672 := n3_;have BK657 := n4_;have BK669 := n5_;have HB := n6_;clear n0_ n1_ n2_ n3_ n4_ n5_ n6_;(try clear hb);(try clear ho0);have hcz26_0 := bC0 BK669.out;have hcz26_1 := bC1 BK669.out;have hcz26_2 := bC2 BK669.out;have hfz26_0 := blk_frozen BK669.out 0;have hfz26_1 := blk_frozen BK669.out 1;have hfz26_2 := blk_frozen BK669.out 2) | ((with_reducible refine gate_callee (f := 46) rfl ?_);refine goesL_ (some 31) rfl rfl Tryd.func46 (by kernel_rfl) rfl #[.pointer (some ⟨gb669, 0, none⟩), .slice A1 l1.length c1] rfl mM ?_;(with_reducible refine (impl_valPlace.calls gb669 k t662 Ao20 co20 t663 Ao21 co21 t666 _ _ l1 t673 _ ?side1 ?side2 ?side3 ?side4 ?side5 ?side6 A9.out ?sideG).mono ?_);(case sideG => exact kP BK669.out);(case side1 => exact cP (Kd.S_reads' HO665.out).2.2);(case side2 => exact (Kd.S_reads' HO665.out).2.1);(case side3 => exact cP (Kd.S_reads' HO668.out).2.2);(case side4 => exact (Kd.S_reads' HO668.out).2.1);(case side5 => exact cP (Kd.C_below HR1.out HB.out));(case side6 => exact HC1.out);rintro e w27 ⟨rfl, hb⟩;refine ⟨_, rfl, ?_⟩;have n0_ := aM (Kd.R_below (by exact rP HO661.out) hb);have n1_ := aM (Kd.S_below (by exact tP HO665.out) hb);have n2_ := aM (Kd.S_below (by exact tP HO668.out) hb);have n3_ := aM (Kd.R_below (by exact rP HO672.out) hb);have n4_ := aM (kB hb BK657.out);have n5_ := aM (kB hb BK669.out);have n6_ := aM (below_step (by exact bB) hb);clear HO661;clear HO665;clear HO668;clear HO672;clear BK657;clear BK669;clear HB;have HO661 := n0_;have HO665 := n1_;have HO668 := n2_;have HO672 := n3_;have BK657 := n4_;have BK669 := n5_;have HB := n6_;clear n0_ n1_ n2_ n3_ n4_ n5_ n6_;(try clear hb);obtain ⟨Ao28, co28, eo28⟩ := Kd.R_slice HO672.out;subst eo28;have p674 : 0 ≤ (t673 : Int) := oA;have q674 : t673 < (t670.length : Int) := oA;obtain ⟨ad674, e674, hx674_0⟩ := Kd.at_int (Kd.R_reads' HO672.out).2.2 t673 p674 q674;cases e674;replace p674 := eq_true p674;replace q674 := eq_true q674))
  go_ret2
  exact ⟨eW, by exact bB⟩
 rw [if_neg c12] at H
 have c12b0 : decide ((rd t670 t673) < 0) = false := decide_eq_false c12
 clear c12
 have H' := Aside0.mk H
 clear H
 go_enter Tryd.func18, Tryd.ntmps18
 go_wp2_with (first | ((with_reducible refine gate_dst (N := 3) rfl ?_);refine box_event ?hg (N := 3) ?hd (cs := #[.int .i64 a0_0, .slice A0_1 l0_1.length c0_1]) (t := 29) ?hr ?_;(case hd => rfl);(case hg => rfl);(case hr => exact gS);intro gb657 hg w29 hbox hb;have n0_ := aM (below_step (by exact bB) hb);have n1_ := aM (hbox);have n2_ := aM (sW hg : w.heap.size ≤ gb657);have n3_ := aM (sW hg : w.heap.size ≤ gb657);clear HB;have HB := n0_;have BK657 := n1_;have GW657 := n2_;have GE657 := n3_;clear n0_ n1_ n2_ n3_;clear hb hbox hg;have hcz30_0 := bC0 BK657.out;have hcz30_1 := bC1 BK657.out;have hfz30_0 := blk_frozen BK657.out 0;have hfz30_1 := blk_frozen BK657.out 1) | ((with_reducible refine gate_callee (f := 45) rfl ?_);refine goesL_ (some 19) rfl rfl Tryd.func45 (by kernel_rfl) rfl #[.agg #[.int .i64 a0_0, .slice A0_1 l0_1.length c0_1], .slice A1 l1.length c1] rfl mM ?_;(with_reducible refine (impl_isSet.calls k a0_0 _ _ l0_1 _ _ l1 true _ ?side1 ?side2 ?side3 ?side4 A4.out).mono ?_);(case side1 => exact cP (Kd.C_below HR0_1.out HB.out));(case side2 => exact HC0_1.out);(case side3 => exact cP (Kd.C_below HR1.out HB.out));(case side4 => exact HC1.out);rintro e w31 ⟨rfl, hb⟩;refine ⟨_, rfl, ?_⟩;have n0_ := aM (kB hb BK657.out);have n1_ := aM (below_step (by exact bB) hb);clear BK657;clear HB;have BK657 := n0_;have HB := n1_;clear n0_ n1_;(try clear hb);have hcz32_0 := bC0 BK657.out;have hcz32_1 := bC1 BK657.out;have hfz32_0 := blk_frozen BK657.out 0;have hfz32_1 := blk_frozen BK657.out 1) | ((with_reducible refine gate_callee (f := 32) rfl ?_);refine goesL_ (some 22) rfl rfl Tryd.func32 (by kernel_rfl) rfl #[.agg #[.int .i64 a0_0, .slice A0_1 l0_1.length c0_1]] rfl mM ?_;(with_reducible refine (impl_netOf.calls a0_0 _ _ l0_1 t659 _ ?side1 ?side2 A6.out).mono ?_);(case side1 => exact cP (Kd.C_below HR0_1.out HB.out));(case side2 => exact HC0_1.out);rintro e w33 ⟨v660, rfl, ho0, hb⟩;refine ⟨_, rfl, ?_⟩;have n0_ := aM (Kd.R_lower ho0 (below_size (by exact bB)));have n1_ := aM (kB hb BK657.out);have n2_ := aM (below_step (by exact bB) hb);clear BK657;clear HB;have HO661 := n0_;have BK657 := n1_;have HB := n2_;clear n0_ n1_ n2_;(try clear hb);(try clear ho0);obtain ⟨Ao34, co34, eo34⟩ := Kd.R_slice HO661.out;subst eo34) | ((with_reducible refine gate_callee (f := 33) rfl ?_);refine goesL_ (some 26) rfl rfl Tryd.func33 (by kernel_rfl) rfl #[.agg #[.slice Ao34 t659.length co34], .int .i64 (l1.length : Int), .bool a2] rfl mM ?_;(with_reducible refine (impl_net_guardGame.calls k _ _ t659 (l1.length : Int) a2 t662 t663 t666 _ ?sideT ?side1 ?side2 A7.out).mono ?_);(case sideT => exact tabG_below HT.out (by exact bB));(case side1 => exact cP (Kd.R_reads' HO661.out).2.2);(case side2 => exact (Kd.R_reads' HO661.out).2.1);rintro e w35 ⟨gb669, v664, v667, rfl, hbx, hge, ho0, ho1, hb⟩;refine ⟨_, rfl, ?_⟩;have GW669 := aM (Nat.le_trans (below_size (by exact bB)) hge);have GE669 := GW669;have NB657_669 : Aside0 (gb657 ≠ gb669) := ⟨Nat.ne_of_lt (Nat.lt_of_lt_of_le (blk_lt (g := gb657) (o := .cells #[.int .i64 a0_0, .slice A0_1 l0_1.length c0_1] 29 (0, 0)) (by exact kP BK657.out)) hge)⟩;have NB669_657 : Aside0 (gb669 ≠ gb657) := ⟨Nat.ne_of_gt (Nat.lt_of_lt_of_le (blk_lt (g := gb657) (o := .cells #[.int .i64 a0_0, .slice A0_1 l0_1.length c0_1] 29 (0, 0)) (by exact kP BK657.out)) hge)⟩;have n0_ := aM (Kd.R_below (by exact rP HO661.out) hb);have n1_ := aM (Kd.S_lower (Kd.S_new' ho0 (Kd.R_lt (by exact rP HO661.out))) (below_size (by exact bB)));have n2_ := aM (Kd.S_lower (Kd.S_new' ho1 (Kd.R_lt (by exact rP HO661.out))) (below_size (by exact bB)));have n3_ := aM (kB hb BK657.out);have n4_ := aM (below_step (by exact bB) hb);clear HO661;clear BK657;clear HB;have HO661 := n0_;have HO665 := n1_;have HO668 := n2_;have BK657 := n3_;have HB := n4_;clear n0_ n1_ n2_ n3_ n4_;(try clear hb);(try clear ho0);(try clear ho1);obtain ⟨Ao36, co36, eo36⟩ := Kd.S_slice HO665.out;subst eo36;obtain ⟨Ao37, co37, eo37⟩ := Kd.S_slice HO668.out;subst eo37;have BK669 := Aside0.mk hbx;clear hbx hge;have hnb39 := NB669_657.out;have hnc39 := NB657_669.out;have hcz40_0 := bC0 BK669.out;have hcz40_1 := bC1 BK669.out;have hcz40_2 := bC2 BK669.out;have hfz40_0 := blk_frozen BK669.out 0;have hfz40_1 := blk_frozen BK669.out 1;have hfz40_2 := blk_frozen BK669.out 2) | ((with_reducible refine gate_callee (f := 34) rfl ?_);refine goesL_ (some 28) rfl rfl Tryd.func34 (by kernel_rfl) rfl #[.pointer (some ⟨gb669, 0, none⟩)] rfl mM ?_;(with_reducible refine (impl_valResist.calls gb669 k t662 Ao36 co36 t663 Ao37 co37 t666 t670 _ ?side1 ?side2 ?side3 ?side4 A8.out ?sideG).mono ?_);(case sideG => exact kP BK669.out);(case side1 => exact cP (Kd.S_reads' HO665.out).2.2);(case side2 => exact (Kd.S_reads' HO665.out).2.1);(case side3 => exact cP (Kd.S_reads' HO668.out).2.2);(case side4 => exact (Kd.S_reads' HO668.out).2.1);rintro e w41 ⟨v671, rfl, ho0, hb⟩;refine ⟨_, rfl, ?_⟩;have n0_ := aM (Kd.R_elder' (by exact rP HO661.out) (Kd.R_base ho0) hb);have n1_ := aM (Kd.S_elder' (by exact tP HO665.out) (Kd.R_base ho0) hb);have n2_ := aM (Kd.S_elder' (by exact tP HO668.out) (Kd.R_base ho0) hb);have n3_ := aM (Kd.R_lower (Kd.R_new' ho0 (Kd.R_lt (by exact rP HO661.out))) (below_size (by exact bB)));have n4_ := aM (kB hb BK657.out);have n5_ := aM (kB hb BK669.out);have n6_ := aM (below_step (by exact bB) hb);clear HO661;clear HO665;clear HO668;clear BK657;clear BK669;clear HB;have HO661 := n0_;have HO665 := n1_;have HO668 := n2_;have HO672 := n3_;have BK657 := n4_;have BK669 := n5_;have HB := n6_;clear n0_ n1_ n2_ n3_ n4_ n5_ n6_;(try clear hb);(try clear ho0);have hcz42_0 := bC0 BK669.out;have hcz42_1 := bC1 BK669.out;have hcz42_2 := bC2 BK669.out;have hfz42_0 := blk_frozen BK669.out 0;have hfz42_1 := blk_frozen BK669.out 1;have hfz42_2 := blk_frozen BK669.out 2) | ((with_reducible refine gate_callee (f := 46) rfl ?_);refine goesL_ (some 31) rfl rfl Tryd.func46 (by kernel_rfl) rfl #[.pointer (some ⟨gb669, 0, none⟩), .slice A1 l1.length c1] rfl mM ?_;(with_reducible refine (impl_valPlace.calls gb669 k t662 Ao36 co36 t663 Ao37 co37 t666 _ _ l1 t673 _ ?side1 ?side2 ?side3 ?side4 ?side5 ?side6 A9.out ?sideG).mono ?_);(case sideG => exact kP BK669.out);(case side1 => exact cP (Kd.S_reads' HO665.out).2.2);(case side2 => exact (Kd.S_reads' HO665.out).2.1);(case side3 => exact cP (Kd.S_reads' HO668.out).2.2);(case side4 => exact (Kd.S_reads' HO668.out).2.1);(case side5 => exact cP (Kd.C_below HR1.out HB.out));(case side6 => exact HC1.out);rintro e w43 ⟨rfl, hb⟩;refine ⟨_, rfl, ?_⟩;have n0_ := aM (Kd.R_below (by exact rP HO661.out) hb);have n1_ := aM (Kd.S_below (by exact tP HO665.out) hb);have n2_ := aM (Kd.S_below (by exact tP HO668.out) hb);have n3_ := aM (Kd.R_below (by exact rP HO672.out) hb);have n4_ := aM (kB hb BK657.out);have n5_ := aM (kB hb BK669.out);have n6_ := aM (below_step (by exact bB) hb);clear HO661;clear HO665;clear HO668;clear HO672;clear BK657;clear BK669;clear HB;have HO661 := n0_;have HO665 := n1_;have HO668 := n2_;have HO672 := n3_;have BK657 := n4_;have BK669 := n5_;have HB := n6_;clear n0_ n1_ n2_ n3_ n4_ n5_ n6_;(try clear hb);obtain ⟨Ao44, co44, eo44⟩ := Kd.R_slice HO672.out;subst eo44;have p674 : 0 ≤ (t673 : Int) := oA;have q674 : t673 < (t670.length : Int) := oA;obtain ⟨ad674, e674, hx674_0⟩ := Kd.at_int (Kd.R_reads' HO672.out).2.2 t673 p674 q674;cases e674;replace p674 := eq_true p674;replace q674 := eq_true q674;have hcz45_0 := bC0 BK657.out;have hcz45_1 := bC1 BK657.out;have hfz45_0 := blk_frozen BK657.out 0;have hfz45_1 := blk_frozen BK657.out 1))
 go_loopg [11, 12, 39] k (fun kq v11 v12 v39 w' => ∃ (x11_1 : Int) (x12_1 : Int) (x39_1 : Int), v11 = .int .i64 x11_1 ∧ v12 = .int .i64 x12_1 ∧ v39 = .int .i64 x39_1 ∧ Aside0 (impl_WorstAttack.l0 kq l1 t670 t673 x11_1 x12_1 a0_0 x39_1 t662 t663 t666 = some (r1, r2)) ∧ Aside0 (kq ≤ k) ∧ Aside0 (Kd.R (Kd.int .i64) 3 w' w.heap.size (fun _ => True) (.slice (some ad674) t670.length co44) t670) ∧ Aside0 (Kd.S (Kd.slice 3 (Kd.int .i64)) 36 w' w.heap.size (fun k_ => some k_ ≠ ((.slice (some ad674) t670.length co44) : Value).ownBlock ∧ some k_ ≠ ((.slice Ao37 t666.length co37) : Value).ownBlock) (.slice Ao36 t663.length co36) t663) ∧ Aside0 (Kd.S (Kd.slice 3 (Kd.int .i64)) 36 w' w.heap.size (fun k_ => some k_ ≠ ((.slice (some ad674) t670.length co44) : Value).ownBlock ∧ some k_ ≠ ((.slice Ao36 t663.length co36) : Value).ownBlock) (.slice Ao37 t666.length co37) t666) ∧ Aside0 (w'.heap[gb657]? = some (.cells #[.int .i64 a0_0, (.slice A0_1 l0_1.length c0_1)] 29 (0, 0))) ∧ Aside0 (w'.heap[gb669]? = some (.cells #[.int .i64 t662, (.slice Ao36 t663.length co36), (.slice Ao37 t666.length co37)] 61 (0, 0))) ∧ Aside0 (Below w.heap.size w w'))
 case atStart => exact ⟨((-1)), (0), (0), eF, eF, eF, H', ⟨Nat.le_refl _⟩, ⟨by refine rP ?_;exact Kd.R_mono HO672.out (fun _ hk => trivial)⟩, ⟨by (with_reducible repeat (first | apply Kd.S_alloc | apply Kd.S_drewN | apply Kd.S_drew));exact Kd.S_mono HO665.out (fun _ hk => ⟨hk.2, hk.1.1⟩)⟩, ⟨by (with_reducible repeat (first | apply Kd.S_alloc | apply Kd.S_drewN | apply Kd.S_drew));exact Kd.S_mono HO668.out (fun _ hk => ⟨hk.2, hk.1.1⟩)⟩, ⟨by exact kP BK657.out⟩, ⟨by exact kP BK669.out⟩, ⟨by exact bB⟩⟩
 case round =>
  clear H'
  try clear c1
  try clear c2
  try clear p2
  try clear c3
  try clear c4
  try clear c5
  try clear c6
  try clear p6
  try clear q6
  try clear hx6
  try clear c10
  try clear c10b0
  try clear c11
  try clear c11b0
  try clear c12
  try clear c12b0
  try clear c18
  try clear c23
  try clear c32
  try clear c33
  try clear c39
  try clear c45
  try clear hcz14_0
  try clear hcz14_1
  try clear hcz16_0
  try clear hcz16_1
  try clear hcz24_0
  try clear hcz24_1
  try clear hcz24_2
  try clear hcz26_0
  try clear hcz26_1
  try clear hcz26_2
  try clear hcz30_0
  try clear hcz30_1
  try clear hcz32_0
  try clear hcz32_1
  try clear hcz40_0
  try clear hcz40_1
  try clear hcz40_2
  try clear hcz42_0
  try clear hcz42_1
  try clear hcz42_2
  try clear hcz45_0
  try clear hcz45_1
  try clear hfz14_0
  try clear hfz14_1
  try clear hfz16_0
  try clear hfz16_1
  try clear hfz24_0
  try clear hfz24_1
  try clear hfz24_2
  try clear hfz26_0
  try clear hfz26_1
  try clear hfz26_2
  try clear hfz30_0
  try clear hfz30_1
  try clear hfz32_0
  try clear hfz32_1
  try clear hfz40_0
  try clear hfz40_1
  try clear hfz40_2
  try clear hfz42_0
  try clear hfz42_1
  try clear hfz42_2
  try clear hfz45_0
  try clear hfz45_1
  try clear hx674_0
  try clear p674
  try clear q674
  obtain ⟨x11_1, x12_1, x39_1, rfl, rfl, rfl, HA, HK1, HO_9, HO_670001, HO_670002, BK657, BK669, HB⟩ := hrel
  cases gk with
  | zero => exact absurd HA.out (by simp [impl_WorstAttack.l0])
  | succ k1 =>
   have H := HA.out
   clear HA
   simp only [impl_WorstAttack.l0] at H
   by_cases c46 : x39_1 < a0_0
   rotate_left
   ·rw [if_neg c46] at H
    have c46b0 : decide (x39_1 < a0_0) = false := decide_eq_false c46
    clear c46
    simp only [Option.some.injEq, Prod.mk.injEq] at H
    obtain ⟨rfl, rfl⟩ := H
    go_wp2
    go_ret2
    exact ⟨eW, by exact bB⟩
   rw [if_pos c46] at H
   have c46b0 : decide (x39_1 < a0_0) = true := decide_eq_true c46
   clear c46
   replace H := Option.bind_eq_some_iff.mp H
   obtain ⟨t675, A470, H⟩ := H
   replace H : (if t675 = true then (impl_WorstAttack.l0 k1 l1 t670 t673 x11_1 x12_1 a0_0 (wrap64 (x39_1 + 1)) t662 t663 t666) else ((impl_valAnswers.f t662 t663 t666 t673 x39_1).bind fun t676 => (impl_WorstAttack.l1 k1 l1 t670 t673 x11_1 x12_1 x39_1 (-1) a0_0 x39_1 t676 (t676.length : Int) 0 t662 t663 t666))) = some (r1, r2) := H
   have A47 := Aside0.mk A470
   clear A470
   by_cases c48 : t675 = true
   ·subst c48
    have H1 : (impl_WorstAttack.l0 k1 l1 t670 t673 x11_1 x12_1 a0_0 (wrap64 (x39_1 + 1)) t662 t663 t666) = some (r1, r2) := by rw [if_pos rfl] at H;exact H
    clear H
    have H := H1
    clear H1
    have H' := Aside0.mk H
    clear H
    go_wp2_with (first | ((with_reducible refine gate_callee (f := 47) rfl ?_);refine goesL_ (some 44) rfl rfl Tryd.func47 (by kernel_rfl) rfl #[.slice A1 l1.length c1, .int .i64 x39_1] rfl mM ?_;(with_reducible refine (slices_Contains_int_int.calls k1 _ _ l1 x39_1 true _ ?side1 ?side2 A47.out).mono ?_);(case side1 => exact cP (Kd.C_below HR1.out HB.out));(case side2 => exact HC1.out);rintro e w' ⟨rfl, ⟨nd, rfl⟩⟩;refine ⟨_, rfl, ?_⟩))
    go_roundg k1
    case measure => have := HK1.out;omega
    case rel => exact ⟨(x11_1), (x12_1), (wrap64 (x39_1 + 1)), eF, eF, eF, H', ⟨by have := HK1.out;omega⟩, ⟨by exact rP HO_9.out⟩, ⟨by (with_reducible repeat (first | apply Kd.S_alloc | apply Kd.S_drewN | apply Kd.S_drew));exact HO_670001.out⟩, ⟨by (with_reducible repeat (first | apply Kd.S_alloc | apply Kd.S_drewN | apply Kd.S_drew));exact HO_670002.out⟩, ⟨by exact kP BK657.out⟩, ⟨by exact kP BK669.out⟩, ⟨by exact bB⟩⟩
   replace c48 := Bool.eq_false_iff.mpr c48
   subst c48
   have H1 : ((impl_valAnswers.f t662 t663 t666 t673 x39_1).bind fun t676 => (impl_WorstAttack.l1 k1 l1 t670 t673 x11_1 x12_1 x39_1 (-1) a0_0 x39_1 t676 (t676.length : Int) 0 t662 t663 t666)) = some (r1, r2) := by rw [if_neg (show ¬ (false = true) by decide)] at H;exact H
   clear H
   have H := H1
   clear H1
   replace H := Option.bind_eq_some_iff.mp H
   obtain ⟨t676, A490, H⟩ := H
   replace H : (impl_WorstAttack.l1 k1 l1 t670 t673 x11_1 x12_1 x39_1 (-1) a0_0 x39_1 t676 (t676.length : Int) 0 t662 t663 t666) = some (r1, r2) := H
   have A49 := Aside0.mk A490
   clear A490
   have H' := Aside0.mk H
   clear H
   go_wp2_with (first | ((with_reducible refine gate_callee (f := 47) rfl ?_);refine goesL_ (some 44) rfl rfl Tryd.func47 (by kernel_rfl) rfl #[.slice A1 l1.length c1, .int .i64 x39_1] rfl mM ?_;(with_reducible refine (slices_Contains_int_int.calls k1 _ _ l1 x39_1 false _ ?side1 ?side2 A47.out).mono ?_);(case side1 => exact cP (Kd.C_below HR1.out HB.out));(case side2 => exact HC1.out);rintro e w' ⟨rfl, ⟨nd, rfl⟩⟩;refine ⟨_, rfl, ?_⟩;have hnb50 := NB669_657.out;have hnc50 := NB657_669.out;have hcz51_0 := bC0 BK669.out;have hcz51_1 := bC1 BK669.out;have hcz51_2 := bC2 BK669.out;have hfz51_0 := blk_frozen BK669.out 0;have hfz51_1 := blk_frozen BK669.out 1;have hfz51_2 := blk_frozen BK669.out 2) | ((with_reducible refine gate_callee (f := 48) rfl ?_);refine goesL_ (some 48) rfl rfl Tryd.func48 (by kernel_rfl) rfl #[.pointer (some ⟨gb669, 0, none⟩), .int .i64 t673, .int .i64 x39_1] rfl mM ?_;(with_reducible refine (impl_valAnswers.calls gb669 t662 Ao36 co36 t663 Ao37 co37 t666 t673 x39_1 t676 _ ?side1 ?side2 ?side3 ?side4 A49.out ?sideG).mono ?_);(case sideG => exact kP BK669.out);(case side1 => exact cP (Kd.S_reads' HO_670001.out).2.2);(case side2 => exact (Kd.S_reads' HO_670001.out).2.1);(case side3 => exact cP (Kd.S_reads' HO_670002.out).2.2);(case side4 => exact (Kd.S_reads' HO_670002.out).2.1);rintro e w52 ⟨v677, rfl, ho0, hb⟩;refine ⟨_, rfl, ?_⟩;have n0_ := aM (Kd.R_elder' (by exact rP HO_9.out) (Kd.R_base ho0) hb);have n1_ := aM (Kd.S_elder' (by exact tP HO_670001.out) (Kd.R_base ho0) hb);have n2_ := aM (Kd.S_elder' (by exact tP HO_670002.out) (Kd.R_base ho0) hb);have n3_ := aM (Kd.R_lower (Kd.R_new' ho0 (Kd.R_lt (by exact rP HO_9.out))) (below_size (by exact bB)));have n4_ := aM (kB hb BK657.out);have n5_ := aM (kB hb BK669.out);have n6_ := aM (below_step (by exact bB) hb);clear HO_9;clear HO_670001;clear HO_670002;clear BK657;clear BK669;clear HB;have HO_9 := n0_;have HO_670001 := n1_;have HO_670002 := n2_;have HO678 := n3_;have BK657 := n4_;have BK669 := n5_;have HB := n6_;clear n0_ n1_ n2_ n3_ n4_ n5_ n6_;(try clear hb);(try clear ho0);obtain ⟨Ao53, co53, eo53⟩ := Kd.R_slice HO678.out;subst eo53))
   go_loopg [14, 50] k1 (fun kq v14 v50 w' => ∃ (x14_2 : Int) (x50_2 : Int), v14 = .int .i64 x14_2 ∧ v50 = .int .i64 x50_2 ∧ Aside0 (impl_WorstAttack.l1 kq l1 t670 t673 x11_1 x12_1 x39_1 x14_2 a0_0 x39_1 t676 (t676.length : Int) x50_2 t662 t663 t666 = some (r1, r2)) ∧ Aside0 (kq ≤ k1) ∧ Aside0 (Kd.R (Kd.int .i64) 3 w' w.heap.size (fun k_ => some k_ ≠ ((.slice Ao53 t676.length co53) : Value).ownBlock) (.slice (some ad674) t670.length co44) t670) ∧ Aside0 (Kd.R (Kd.int .i64) 3 w' w.heap.size (fun k_ => some k_ ≠ ((.slice (some ad674) t670.length co44) : Value).ownBlock) (.slice Ao53 t676.length co53) t676) ∧ Aside0 (Kd.S (Kd.slice 3 (Kd.int .i64)) 36 w' w.heap.size (fun k_ => some k_ ≠ ((.slice (some ad674) t670.length co44) : Value).ownBlock ∧ some k_ ≠ ((.slice Ao53 t676.length co53) : Value).ownBlock ∧ some k_ ≠ ((.slice Ao37 t666.length co37) : Value).ownBlock) (.slice Ao36 t663.length co36) t663) ∧ Aside0 (Kd.S (Kd.slice 3 (Kd.int .i64)) 36 w' w.heap.size (fun k_ => some k_ ≠ ((.slice (some ad674) t670.length co44) : Value).ownBlock ∧ some k_ ≠ ((.slice Ao53 t676.length co53) : Value).ownBlock ∧ some k_ ≠ ((.slice Ao36 t663.length co36) : Value).ownBlock) (.slice Ao37 t666.length co37) t666) ∧ Aside0 (w'.heap[gb657]? = some (.cells #[.int .i64 a0_0, (.slice A0_1 l0_1.length c0_1)] 29 (0, 0))) ∧ Aside0 (w'.heap[gb669]? = some (.cells #[.int .i64 t662, (.slice Ao36 t663.length co36), (.slice Ao37 t666.length co37)] 61 (0, 0))) ∧ Aside0 (Below w.heap.size w w'))
   case atStart => exact ⟨((-1)), (0), eF, eF, H', ⟨Nat.le_refl _⟩, ⟨by refine rP ?_;exact Kd.R_mono HO_9.out (fun _ hk => hk.2)⟩, ⟨by refine rP ?_;exact Kd.R_mono HO678.out (fun _ hk => hk.2)⟩, ⟨by (with_reducible repeat (first | apply Kd.S_alloc | apply Kd.S_drewN | apply Kd.S_drew));exact Kd.S_mono HO_670001.out (fun _ hk => ⟨hk.1.1, ⟨hk.2, hk.1.2⟩⟩)⟩, ⟨by (with_reducible repeat (first | apply Kd.S_alloc | apply Kd.S_drewN | apply Kd.S_drew));exact Kd.S_mono HO_670002.out (fun _ hk => ⟨hk.1.1, ⟨hk.2, hk.1.2⟩⟩)⟩, ⟨by exact kP BK657.out⟩, ⟨by exact kP BK669.out⟩, ⟨by exact bB⟩⟩
   case round =>
    clear H'
    try clear c1
    try clear c2
    try clear p2
    try clear c3
    try clear c4
    try clear c5
    try clear c6
    try clear p6
    try clear q6
    try clear hx6
    try clear c10
    try clear c10b0
    try clear c11
    try clear c11b0
    try clear c12
    try clear c12b0
    try clear c18
    try clear c23
    try clear c32
    try clear c33
    try clear c39
    try clear c45
    try clear c46
    try clear c46b0
    try clear c47
    try clear c48
    try clear c50
    try clear hcz14_0
    try clear hcz14_1
    try clear hcz16_0
    try clear hcz16_1
    try clear hcz24_0
    try clear hcz24_1
    try clear hcz24_2
    try clear hcz26_0
    try clear hcz26_1
    try clear hcz26_2
    try clear hcz30_0
    try clear hcz30_1
    try clear hcz32_0
    try clear hcz32_1
    try clear hcz40_0
    try clear hcz40_1
    try clear hcz40_2
    try clear hcz42_0
    try clear hcz42_1
    try clear hcz42_2
    try clear hcz45_0
    try clear hcz45_1
    try clear hcz51_0
    try clear hcz51_1
    try clear hcz51_2
    try clear hfz14_0
    try clear hfz14_1
    try clear hfz16_0
    try clear hfz16_1
    try clear hfz24_0
    try clear hfz24_1
    try clear hfz24_2
    try clear hfz26_0
    try clear hfz26_1
    try clear hfz26_2
    try clear hfz30_0
    try clear hfz30_1
    try clear hfz32_0
    try clear hfz32_1
    try clear hfz40_0
    try clear hfz40_1
    try clear hfz40_2
    try clear hfz42_0
    try clear hfz42_1
    try clear hfz42_2
    try clear hfz45_0
    try clear hfz45_1
    try clear hfz51_0
    try clear hfz51_1
    try clear hfz51_2
    try clear hx674_0
    try clear p2
    try clear p6
    try clear p674
    try clear q6
    try clear q674
    obtain ⟨x14_2, x50_2, rfl, rfl, HA, HK2, HO_9, HO_48, HO_670001, HO_670002, BK657, BK669, HB⟩ := hrel
    cases gk with
    | zero => exact absurd HA.out (by simp [impl_WorstAttack.l1])
    | succ k2 =>
     have H := HA.out
     clear HA
     simp only [impl_WorstAttack.l1] at H
     by_cases c54 : x50_2 < (t676.length : Int)
     rotate_left
     ·rw [if_neg c54] at H
      have c54b0 : decide (x50_2 < (t676.length : Int)) = false := decide_eq_false c54
      clear c54
      by_cases c61 : x11_1 < 0
      ·rw [if_pos c61] at H
       have c61b0 : decide (x11_1 < 0) = true := decide_eq_true c61
       clear c61
       have H' := Aside0.mk H
       clear H
       go_wp2
       go_roundg k2
       case measure => have := HK1.out;have := HK2.out;omega
       case rel => exact ⟨(x39_1), (x14_2), (wrap64 (x39_1 + 1)), eF, eF, eF, H', ⟨by have := HK1.out;have := HK2.out;omega⟩, ⟨by refine rP ?_;exact Kd.R_mono HO_9.out (fun _ hk => trivial)⟩, ⟨by (with_reducible repeat (first | apply Kd.S_alloc | apply Kd.S_drewN | apply Kd.S_drew));exact Kd.S_mono HO_670001.out (fun _ hk => ⟨hk.1, hk.2.2⟩)⟩, ⟨by (with_reducible repeat (first | apply Kd.S_alloc | apply Kd.S_drewN | apply Kd.S_drew));exact Kd.S_mono HO_670002.out (fun _ hk => ⟨hk.1, hk.2.2⟩)⟩, ⟨by exact kP BK657.out⟩, ⟨by exact kP BK669.out⟩, ⟨by exact bB⟩⟩
      rw [if_neg c61] at H
      have c61b0 : decide (x11_1 < 0) = false := decide_eq_false c61
      clear c61
      by_cases c62 : x14_2 < x12_1
      rotate_left
      ·rw [if_neg c62] at H
       have c62b0 : decide (x14_2 < x12_1) = false := decide_eq_false c62
       clear c62
       have H' := Aside0.mk H
       clear H
       go_wp2
       go_roundg k2
       case measure => have := HK1.out;have := HK2.out;omega
       case rel => exact ⟨(x11_1), (x12_1), (wrap64 (x39_1 + 1)), eF, eF, eF, H', ⟨by have := HK1.out;have := HK2.out;omega⟩, ⟨by refine rP ?_;exact Kd.R_mono HO_9.out (fun _ hk => trivial)⟩, ⟨by (with_reducible repeat (first | apply Kd.S_alloc | apply Kd.S_drewN | apply Kd.S_drew));exact Kd.S_mono HO_670001.out (fun _ hk => ⟨hk.1, hk.2.2⟩)⟩, ⟨by (with_reducible repeat (first | apply Kd.S_alloc | apply Kd.S_drewN | apply Kd.S_drew));exact Kd.S_mono HO_670002.out (fun _ hk => ⟨hk.1, hk.2.2⟩)⟩, ⟨by exact kP BK657.out⟩, ⟨by exact kP BK669.out⟩, ⟨by exact bB⟩⟩
      rw [if_pos c62] at H
      have c62b0 : decide (x14_2 < x12_1) = true := decide_eq_true c62
      clear c62
      have H' := Aside0.mk H
      clear H
      go_wp2
      go_roundg k2
      case measure => have := HK1.out;have := HK2.out;omega
      case rel => exact ⟨(x39_1), (x14_2), (wrap64 (x39_1 + 1)), eF, eF, eF, H', ⟨by have := HK1.out;have := HK2.out;omega⟩, ⟨by refine rP ?_;exact Kd.R_mono HO_9.out (fun _ hk => trivial)⟩, ⟨by (with_reducible repeat (first | apply Kd.S_alloc | apply Kd.S_drewN | apply Kd.S_drew));exact Kd.S_mono HO_670001.out (fun _ hk => ⟨hk.1, hk.2.2⟩)⟩, ⟨by (with_reducible repeat (first | apply Kd.S_alloc | apply Kd.S_drewN | apply Kd.S_drew));exact Kd.S_mono HO_670002.out (fun _ hk => ⟨hk.1, hk.2.2⟩)⟩, ⟨by exact kP BK657.out⟩, ⟨by exact kP BK669.out⟩, ⟨by exact bB⟩⟩
     rw [if_pos c54] at H
     have c54b0 : decide (x50_2 < (t676.length : Int)) = true := decide_eq_true c54
     clear c54
     by_cases c55 : 0 ≤ x50_2
     rotate_left
     ·rw [if_neg c55] at H
      exact absurd H (by simp)
     rw [if_pos c55] at H
     have c55b0 : decide (0 ≤ x50_2) = true := decide_eq_true c55
     clear c55
     by_cases c56 : x50_2 < (t676.length : Int)
     rotate_left
     ·rw [if_neg c56] at H
      exact absurd H (by simp)
     rw [if_pos c56] at H
     have c56b0 : decide (x50_2 < (t676.length : Int)) = true := decide_eq_true c56
     clear c56
     by_cases c57 : 0 ≤ (rd t676 x50_2)
     rotate_left
     ·rw [if_neg c57] at H
      exact absurd H (by simp)
     rw [if_pos c57] at H
     have c57b0 : decide (0 ≤ (rd t676 x50_2)) = true := decide_eq_true c57
     clear c57
     by_cases c58 : (rd t676 x50_2) < (t670.length : Int)
     rotate_left
     ·rw [if_neg c58] at H
      exact absurd H (by simp)
     rw [if_pos c58] at H
     have c58b0 : decide ((rd t676 x50_2) < (t670.length : Int)) = true := decide_eq_true c58
     clear c58
     replace H := Option.bind_eq_some_iff.mp H
     obtain ⟨t681, A590, H⟩ := H
     replace H : (impl_WorstAttack.l1 k2 l1 t670 t673 x11_1 x12_1 x39_1 (mx x14_2 t681) a0_0 x39_1 t676 (t676.length : Int) (wrap64 (x50_2 + 1)) t662 t663 t666) = some (r1, r2) := H
     have A59 := Aside0.mk A590
     clear A590
     obtain ⟨ji60, hji60⟩ : ∃ j_ : Int, (mx x14_2 t681) = j_ := ⟨_, rfl⟩
     replace H : (impl_WorstAttack.l1 k2 l1 t670 t673 x11_1 x12_1 x39_1 ji60 a0_0 x39_1 t676 (t676.length : Int) (wrap64 (x50_2 + 1)) t662 t663 t666) = some (r1, r2) := by first | (rw [hji60] at H;exact H) | (simp only [hji60] at H ⊢;exact H)
     (try rw [hji60] at A59)
     have hji60_ : (if x14_2 < t681 then t681 else x14_2) = ji60 := hji60
     have H' := Aside0.mk H
     clear H
     have p679 : 0 ≤ (x50_2 : Int) := oA
     have q679 : x50_2 < (t676.length : Int) := oA
     obtain ⟨ad679, e679, hx679_0⟩ := Kd.at_int (Kd.R_reads' HO_48.out).2.2 x50_2 p679 q679
     cases e679
     replace p679 := eq_true p679
     replace q679 := eq_true q679
     have p680 : 0 ≤ ((rd t676 x50_2) : Int) := oA
     have q680 : (rd t676 x50_2) < (t670.length : Int) := oA
     obtain ⟨ad680, e680, hx680_0⟩ := Kd.at_int (Kd.R_reads' HO_9.out).2.2 (rd t676 x50_2) p680 q680
     obtain rfl : ad674 = ad680 := (by injection e680)
     replace p680 := eq_true p680
     replace q680 := eq_true q680
     go_wp2_with (first | ((with_reducible refine gate_callee (f := 49) rfl ?_);refine goesL_ (some 59) rfl rfl Tryd.func49 (by kernel_rfl) rfl #[.int .i64 (rd t670 (rd t676 x50_2))] rfl mM ?_;(with_reducible refine (impl_endless.calls (rd t670 (rd t676 x50_2)) t681 _ A59.out).mono ?_);rintro e w' ⟨rfl, ⟨nd, rfl⟩⟩;refine ⟨_, rfl, ?_⟩))
     go_roundg k2
     case measure => have := HK1.out;have := HK2.out;omega
     case rel => exact ⟨(ji60), (wrap64 (x50_2 + 1)), (by first | rfl | (simp;done) | (simp only [← hji60] <;> (first | rfl | simp)) | (simp [*];done)), eF, H', ⟨by have := HK1.out;have := HK2.out;omega⟩, ⟨by exact rP HO_9.out⟩, ⟨by exact rP HO_48.out⟩, ⟨by (with_reducible repeat (first | apply Kd.S_alloc | apply Kd.S_drewN | apply Kd.S_drew));exact HO_670001.out⟩, ⟨by (with_reducible repeat (first | apply Kd.S_alloc | apply Kd.S_drewN | apply Kd.S_drew));exact HO_670002.out⟩, ⟨by exact kP BK657.out⟩, ⟨by exact kP BK669.out⟩, ⟨by exact bB⟩⟩


end Go.Proofs.YtgahlimikndecaaDoor.QWorstAttack
