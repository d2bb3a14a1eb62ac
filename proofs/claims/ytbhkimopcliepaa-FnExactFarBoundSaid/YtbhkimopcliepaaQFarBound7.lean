import Derived.Test.YtbhkimopcliepaaQFarBound0
import Derived.Test.YtbhkimopcliepaaQFarBound6
namespace Go.Proofs.Ytbhkimopcliepaa.QFarBound
open Go.RowKit Go.Proofs.YtbhkimopcliepaaW.PrintWords Go.Proofs.YtbhkimopcliepaaW.PrintLast Go.Proofs.YtbhkimopcliepaaW.PrintMore
attribute [local go_sem] max2_int min2_int max_two min_two max_three min_three max_four min_four   -- for this text's walks alone
set_option linter.unusedVariables false
set_option linter.unusedSimpArgs false
/-! ### slices_Compare_int_int: function 90 -/
def slices_Compare_int_int.l0 : Nat → List Int → List Int → List Int → Int → Int → Option (Int)
  | 0, _, _, _, _, _ => none
  | k + 1, x0, x1, x9, x10, x11 => if x11 < x10 then (if 0 ≤ x11 then (if x11 < (x9.length : Int) then (if x11 ≥ (x1.length : Int) then (some 1) else (if x11 < (x1.length : Int) then ((cmp_Compare_int.f (rd x9 x11) (rd x1 x11)).bind fun t193 => (if t193 = 0 then (slices_Compare_int_int.l0 k x0 x1 x9 x10 (wrap64 (x11 + 1))) else (some t193))) else (none))) else (none)) else (none)) else (if (x0.length : Int) < (x1.length : Int) then (some (-1)) else (some 0))
def slices_Compare_int_int.f (k : Nat) (l0 : List Int) (l1 : List Int) : Option (Int) := slices_Compare_int_int.l0 k l0 l1 l0 (l0.length : Int) 0
theorem slices_Compare_int_int.mono_l : ∀ k, (∀ y0 y1 y2 y3 y4, LeO (slices_Compare_int_int.l0 k y0 y1 y2 y3 y4) (slices_Compare_int_int.l0 (k + 1) y0 y1 y2 y3 y4))
  | 0 => fun _ _ _ _ _ r h => by simp [slices_Compare_int_int.l0] at h
  | k + 1 => by
    have ih0 := slices_Compare_int_int.mono_l k
    · intro y0 y1 y2 y3 y4
      unfold slices_Compare_int_int.l0
      repeat' first
      | (with_reducible exact ih0 _ _ _ _ _)
      | (with_reducible exact LeO.refl _)
      | (with_reducible exact LeO.none _)
      | (with_reducible refine LeO.ite ?_ ?_)
      | (with_reducible refine LeO.bind ?_ (fun _ => ?_))
      | exact ih0 _ _ _ _ _
      | exact LeO.none _
      | refine LeO.ite ?_ ?_
      | refine LeO.bind ?_ (fun _ => ?_)
theorem slices_Compare_int_int.mono : ∀ a0 a1 k, LeO (slices_Compare_int_int.f k a0 a1) (slices_Compare_int_int.f (k + 1) a0 a1) := by
  intro a0 a1 k
  have ih0 := slices_Compare_int_int.mono_l k
  unfold slices_Compare_int_int.f
  repeat' first
      | (with_reducible exact ih0 _ _ _ _ _)
      | (with_reducible exact LeO.refl _)
      | (with_reducible exact LeO.none _)
      | (with_reducible refine LeO.ite ?_ ?_)
      | (with_reducible refine LeO.bind ?_ (fun _ => ?_))
      | exact ih0 _ _ _ _ _
      | exact LeO.none _
      | refine LeO.ite ?_ ?_
      | refine LeO.bind ?_ (fun _ => ?_)
set_option maxHeartbeats 8000000 in
set_option maxRecDepth 100000 in
theorem slices_Compare_int_int.calls (k : Nat) (A0 : Option Addr) (c0 : Nat) (l0 : List Int) (A1 : Option Addr) (c1 : Nat) (l1 : List Int) (r : Int) (w : World) (hr0 : Kd.C (Kd.int .i64) w A0 l0.length l0) (hc0 : l0.length ≤ c0) (hr1 : Kd.C (Kd.int .i64) w A1 l1.length l1) (hc1 : l1.length ≤ c1) (h : slices_Compare_int_int.f k l0 l1 = some r) :
    Calls Try.prog 90 #[.slice A0 l0.length c0, .slice A1 l1.length c1] w fun e w' => e = .returned (.int .i64 r) ∧ Drawn0 w w' := by
  have HR0 := Aside0.mk hr0
  have HC0 := Aside0.mk hc0
  clear hr0 hc0
  have HR1 := Aside0.mk hr1
  have HC1 := Aside0.mk hc1
  clear hr1 hc1
  have H : (slices_Compare_int_int.l0 k l0 l1 l0 (l0.length : Int) 0) = some r := h
  clear h
  have H' := Aside0.mk H
  clear H
  go_enter Try.func90, Try.ntmps90
  go_wp2
  go_loopg [11] k (fun kq v11 w' => ∃ (x11_1 : Int), v11 = .int .i64 x11_1 ∧ Aside0 (slices_Compare_int_int.l0 kq l0 l1 l0 (l0.length : Int) x11_1 = some r) ∧ Aside0 (kq ≤ k) ∧ Drawn0 w w')
  case atStart => exact ⟨(0), (by first | rfl | (simp; done) | (simp [*]; done)), H', ⟨Nat.le_refl _⟩, by repeat (first | exact Drawn0.refl _ | apply Drawn0.step)⟩
  case round =>
    clear H'
    try clear c1
    try clear p2
    obtain ⟨x11_1, rfl, HA, HK1, ⟨m1, rfl⟩⟩ := hrel
    cases gk with
    | zero => exact absurd HA.out (by simp [slices_Compare_int_int.l0])
    | succ k1 =>
      have H := HA.out
      clear HA
      simp only [slices_Compare_int_int.l0] at H
      by_cases c3 : x11_1 < (l0.length : Int)
      · rw [if_pos c3] at H
        have c3b0 : decide (x11_1 < (l0.length : Int)) = true := decide_eq_true c3
        clear c3
        by_cases c4 : 0 ≤ x11_1
        · rw [if_pos c4] at H
          have c4b0 : decide (0 ≤ x11_1) = true := decide_eq_true c4
          clear c4
          by_cases c5 : x11_1 < (l0.length : Int)
          · rw [if_pos c5] at H
            have c5b0 : decide (x11_1 < (l0.length : Int)) = true := decide_eq_true c5
            clear c5
            by_cases c6 : x11_1 ≥ (l1.length : Int)
            · rw [if_pos c6] at H
              have c6b0 : decide ((l1.length : Int) ≤ x11_1) = true := decide_eq_true c6
              clear c6
              obtain rfl := Option.some.inj H
              have p191 : 0 ≤ (x11_1 : Int) := of_decide_eq_true (by first | (with_reducible assumption) | assumption)
              have q191 : x11_1 < (l0.length : Int) := of_decide_eq_true (by first | (with_reducible assumption) | assumption)
              obtain ⟨ad191, e191, hx191_0⟩ := Kd.at_int HR0.out x11_1 p191 q191
              cases e191
              replace p191 := eq_true p191
              replace q191 := eq_true q191
              go_wp2
              go_ret
              exact ⟨by first | rfl | (simp; done) | (simp [*]; done), by repeat (first | exact Drawn0.refl _ | apply Drawn0.step)⟩
            · rw [if_neg c6] at H
              have c6b0 : decide ((l1.length : Int) ≤ x11_1) = false := decide_eq_false c6
              clear c6
              by_cases c7 : x11_1 < (l1.length : Int)
              · rw [if_pos c7] at H
                have c7b0 : decide (x11_1 < (l1.length : Int)) = true := decide_eq_true c7
                clear c7
                replace H := Option.bind_eq_some_iff.mp H
                obtain ⟨t193, A80, H⟩ := H
                replace H : (if t193 = 0 then (slices_Compare_int_int.l0 k1 l0 l1 l0 (l0.length : Int) (wrap64 (x11_1 + 1))) else (some t193)) = some r := H
                have A8 := Aside0.mk A80
                clear A80
                by_cases c9 : t193 = 0
                · rw [if_pos c9] at H
                  have c9b0 : (t193 == 0) = true := beq_iff_eq.mpr c9
                  have c9b1 : (t193 != 0) = false := bne_eq_false_iff_eq.mpr c9
                  clear c9
                  have H' := Aside0.mk H
                  clear H
                  have p191 : 0 ≤ (x11_1 : Int) := of_decide_eq_true (by first | (with_reducible assumption) | assumption)
                  have q191 : x11_1 < (l0.length : Int) := of_decide_eq_true (by first | (with_reducible assumption) | assumption)
                  obtain ⟨ad191, e191, hx191_0⟩ := Kd.at_int HR0.out x11_1 p191 q191
                  cases e191
                  replace p191 := eq_true p191
                  replace q191 := eq_true q191
                  have p192 : 0 ≤ (x11_1 : Int) := of_decide_eq_true (by first | (with_reducible assumption) | assumption)
                  have q192 : x11_1 < (l1.length : Int) := of_decide_eq_true (by first | (with_reducible assumption) | assumption)
                  obtain ⟨ad192, e192, hx192_0⟩ := Kd.at_int HR1.out x11_1 p192 q192
                  cases e192
                  replace p192 := eq_true p192
                  replace q192 := eq_true q192
                  go_wp2_with (first | ((with_reducible refine gate_callee (f := 120) rfl ?_); refine goesL_ (some 26) rfl rfl Try.func120 (by kernel_rfl) rfl #[.int .i64 (rd l0 x11_1), .int .i64 (rd l1 x11_1)] rfl (by (try simp only [List.map_toArray, List.map_cons, List.map_nil]); first | done | rfl | (simp only [List.length_drop, List.length_take]; rfl)) ?_; (with_reducible refine (cmp_Compare_int.calls (rd l0 x11_1) (rd l1 x11_1) t193 _ A8.out).mono ?_); rintro e w' ⟨rfl, ⟨nd, rfl⟩⟩; refine ⟨_, rfl, ?_⟩))
                  go_roundg k1
                  case measure => have := HK1.out; omega
                  case rel => exact ⟨(wrap64 (x11_1 + 1)), (by first | rfl | (simp; done) | (simp [*]; done)), H', ⟨by have := HK1.out; omega⟩, by repeat (first | exact Drawn0.refl _ | apply Drawn0.step)⟩
                · rw [if_neg c9] at H
                  have c9b0 : (t193 == 0) = false := beq_eq_false_iff_ne.mpr c9
                  have c9b1 : (t193 != 0) = true := bne_iff_ne.mpr c9
                  obtain rfl := Option.some.inj H
                  have p191 : 0 ≤ (x11_1 : Int) := of_decide_eq_true (by first | (with_reducible assumption) | assumption)
                  have q191 : x11_1 < (l0.length : Int) := of_decide_eq_true (by first | (with_reducible assumption) | assumption)
                  obtain ⟨ad191, e191, hx191_0⟩ := Kd.at_int HR0.out x11_1 p191 q191
                  cases e191
                  replace p191 := eq_true p191
                  replace q191 := eq_true q191
                  have p192 : 0 ≤ (x11_1 : Int) := of_decide_eq_true (by first | (with_reducible assumption) | assumption)
                  have q192 : x11_1 < (l1.length : Int) := of_decide_eq_true (by first | (with_reducible assumption) | assumption)
                  obtain ⟨ad192, e192, hx192_0⟩ := Kd.at_int HR1.out x11_1 p192 q192
                  cases e192
                  replace p192 := eq_true p192
                  replace q192 := eq_true q192
                  go_wp2_with (first | ((with_reducible refine gate_callee (f := 120) rfl ?_); refine goesL_ (some 26) rfl rfl Try.func120 (by kernel_rfl) rfl #[.int .i64 (rd l0 x11_1), .int .i64 (rd l1 x11_1)] rfl (by (try simp only [List.map_toArray, List.map_cons, List.map_nil]); first | done | rfl | (simp only [List.length_drop, List.length_take]; rfl)) ?_; (with_reducible refine (cmp_Compare_int.calls (rd l0 x11_1) (rd l1 x11_1) t193 _ A8.out).mono ?_); rintro e w' ⟨rfl, ⟨nd, rfl⟩⟩; refine ⟨_, rfl, ?_⟩))
                  go_ret
                  exact ⟨by first | rfl | (simp; done) | (simp [*]; done), by repeat (first | exact Drawn0.refl _ | apply Drawn0.step)⟩
              · rw [if_neg c7] at H
                exact absurd H (by simp)
          · rw [if_neg c5] at H
            exact absurd H (by simp)
        · rw [if_neg c4] at H
          exact absurd H (by simp)
      · rw [if_neg c3] at H
        have c3b0 : decide (x11_1 < (l0.length : Int)) = false := decide_eq_false c3
        clear c3
        by_cases c10 : (l0.length : Int) < (l1.length : Int)
        · rw [if_pos c10] at H
          have c10b0 : decide ((l0.length : Int) < (l1.length : Int)) = true := decide_eq_true c10
          have c10b1 : decide (l0.length < l1.length) = true := decide_eq_true (Int.ofNat_lt.mp c10)
          clear c10
          obtain rfl := Option.some.inj H
          go_wp2
          go_ret
          exact ⟨by first | rfl | (simp; done) | (simp [*]; done), by repeat (first | exact Drawn0.refl _ | apply Drawn0.step)⟩
        · rw [if_neg c10] at H
          have c10b0 : decide ((l0.length : Int) < (l1.length : Int)) = false := decide_eq_false c10
          have c10b1 : decide (l0.length < l1.length) = false := decide_eq_false (fun h => c10 (Int.ofNat_lt.mpr h))
          clear c10
          obtain rfl := Option.some.inj H
          go_wp2
          go_ret
          exact ⟨by first | rfl | (simp; done) | (simp [*]; done), by repeat (first | exact Drawn0.refl _ | apply Drawn0.step)⟩


/-! ### impl_IsGraph: by hand -/
theorem C_two {w : World} {a : Addr} {x y : Int} (h0 : w.cell? a = some (.int .i64 x)) (h1 : w.cell? (a.add 1) = some (.int .i64 y)) : Kd.C (Kd.int .i64) w (some a) ([x, y] : List Int).length [x, y] := by
  refine ⟨rfl, ?_, fun _ => ⟨a, rfl, ?_⟩⟩
  · simp
  · intro j p hj
    match j, hj with
    | 0, hj => 
      simp at hj; subst hj
      exact ⟨[.int .i64 x], rfl, rfl, fun i u hu => by
        match i, hu with
        | 0, hu => simp at hu; subst hu; simpa [Addr.add] using h0⟩
    | 1, hj =>
      simp at hj; subst hj
      exact ⟨[.int .i64 y], rfl, rfl, fun i u hu => by
        match i, hu with
        | 0, hu => simp at hu; subst hu; simpa [Addr.add, Kd.int, Kd.scalar] using h1⟩
theorem cmp2 (a b c d : Int) : ∃ k r, slices_Compare_int_int.f k [a, b] [c, d] = some r ∧ (r < 0 ↔ (a < c ∨ a = c ∧ b < d)) := by
  have hc : ∀ x y, cmp_Compare_int.f x y = some (if x < y then -1 else if x > y then 1 else 0) := by
    intro x y; simp [cmp_Compare_int.f, cmp_isNaN_int.f]; split <;> (try split) <;> rfl
  have w1 : wrap64 (0 + 1) = 1 := by unfold wrap64; omega
  have w2 : wrap64 (1 + 1) = 2 := by unfold wrap64; omega
  refine ⟨3, if a < c then -1 else if a > c then 1 else if b < d then -1 else if b > d then 1 else 0, ?_, ?_⟩
  · simp only [slices_Compare_int_int.f, slices_Compare_int_int.l0, hc]
    simp only [rd, w1, w2, Option.bind_some, List.length_cons, List.length_nil]
    by_cases h1 : a < c
    · simp [h1]
    · by_cases h2 : c < a
      · simp [h1, h2]
      · by_cases h3 : b < d
        · simp [h1, h2, h3]
        · by_cases h4 : d < b
          · simp [h1, h2, h3, h4]
          · simp [h1, h2, h3, h4]
  · split
    · simp; omega
    · split
      · simp; omega
      · split
        · simp; omega
        · split <;> simp <;> omega
def impl_IsGraph.f (a0_0 : Int) (l0_1 : List S100) : Option Bool := some (decide (0 ≤ a0_0 ∧ a0_0 ≤ 8) && goodL a0_0 none l0_1)
set_option maxHeartbeats 8000000 in
set_option maxRecDepth 100000 in
theorem impl_IsGraph.calls (a0_0 : Int) (A0_1 : Option Addr) (c0_1 : Nat) (l0_1 : List (S100)) (r : Bool) (w : World) (hr0_1 : Kd.C k100 w A0_1 l0_1.length l0_1) (hc0_1 : l0_1.length ≤ c0_1) (h : impl_IsGraph.f a0_0 l0_1 = some r) :
    Calls Try.prog 48 #[.agg #[.int .i64 a0_0, .slice A0_1 l0_1.length c0_1]] w fun e w' => e = .returned (.bool r) ∧ Below w.heap.size w w' := by
  have HR := Aside0.mk hr0_1
  have HC := Aside0.mk hc0_1
  have H := Aside0.mk (Option.some.inj h)
  clear hr0_1 hc0_1 h
  by_cases hn : 0 ≤ a0_0 ∧ a0_0 ≤ 8
  · have hw : impl_within.f a0_0 0 8 = some true := by simp [impl_within.f, hn]
    have H1 : Aside0 (goodL a0_0 none l0_1 = r) := ⟨by have := H.out; simpa [hn] using this⟩
    have HW := Aside0.mk hw
    clear hw H
    go_enter Try.func48, Try.ntmps48
    go_wp2_with (go_at_call 49; refine (impl_within.calls _ _ _ _ _ HW.out).mono ?_; rintro e w' ⟨rfl, ⟨nd, rfl⟩⟩)
    have HB : Aside0 (Below w.heap.size w ((w.alloc (Obj.cells #[Value.int IntKind.i64 a0_0, Value.slice A0_1 l0_1.length c0_1] 28)).drewN nd)) := ⟨pw_below_drewN (below_alloc (Below.refl _ _) _) _⟩
    go_loopw [12] (fun v wr => ∃ x : Int, v = .int .i64 x ∧ Aside0 (0 ≤ x ∧ x ≤ l0_1.length) ∧ Aside0 (goodL a0_0 (prevAt l0_1 x.toNat) (l0_1.drop x.toNat) = r) ∧ Aside0 (wr.heap[w.heap.size]? = some (.cells #[.int .i64 a0_0, .slice A0_1 l0_1.length c0_1] 28 (0, 0))) ∧ Aside0 (Below w.heap.size w wr)) (fun v _ => l0_1.length - (intOf v).toNat)
    case atStart => exact ⟨0, rfl, ⟨by omega, by omega⟩, ⟨by simpa [prevAt] using H1.out⟩, ⟨blk_drewN (blk_new w _) _⟩, HB⟩
    case round =>
      clear HB H1
      obtain ⟨x, rfl, HX, HG, BK, HB⟩ := hrel
      have hcz0 : wr.cell? ⟨w.heap.size, 0, none⟩ = some (.int .i64 a0_0) := (blk_cell BK.out 0).trans rfl
      have hcz1 : wr.cell? ⟨w.heap.size, 1, none⟩ = some (.slice A0_1 l0_1.length c0_1) := (blk_cell BK.out 1).trans rfl
      by_cases hlt : x < (l0_1.length : Int)
      · have hlt' : decide (x < (l0_1.length : Int)) = true := decide_eq_true hlt
        have p0 : 0 ≤ x := HX.out.1
        obtain ⟨ad, e, hx0, hx1⟩ := at_T100 HR.out x p0 hlt
        cases e
        replace hx0 := (HB.out.cell (World.block_lt_of_cell? w _ hx0)).trans hx0
        replace hx1 := (HB.out.cell (World.block_lt_of_cell? w _ hx1)).trans hx1
        replace p0 := eq_true p0
        have hlt'' := eq_true hlt
        have HL := Aside0.mk hlt
        have hsz : w.heap.size < wr.heap.size := blk_lt BK.out
        clear hlt
        go_wp2
        by_cases t0 : (rd_T100 l0_1 x).f0 < 0
        · have d0 : decide ((rd_T100 l0_1 x).f0 < 0) = true := decide_eq_true t0
          have hr : r = false := by rw [← HG.out, step_lt HX.out.1 HL.out]; simp [edgeOk]; omega
          subst hr
          clear t0
          go_quiet (fail)
          go_wp2
          go_ret
          exact ⟨rfl, by repeat (first | exact HB.out | apply below_alloc | apply pw_below_drewN | apply below_drew)⟩
        have d0 : decide ((rd_T100 l0_1 x).f0 < 0) = false := decide_eq_false t0
        by_cases t1 : (rd_T100 l0_1 x).f1 ≤ (rd_T100 l0_1 x).f0
        · have d1 : decide ((rd_T100 l0_1 x).f1 ≤ (rd_T100 l0_1 x).f0) = true := decide_eq_true t1
          have hr : r = false := by rw [← HG.out, step_lt HX.out.1 HL.out]; simp [edgeOk]; omega
          subst hr
          clear t0 t1
          go_quiet (fail)
          go_wp2
          go_ret
          exact ⟨rfl, by repeat (first | exact HB.out | apply below_alloc | apply pw_below_drewN | apply below_drew)⟩
        have d1 : decide ((rd_T100 l0_1 x).f1 ≤ (rd_T100 l0_1 x).f0) = false := decide_eq_false t1
        by_cases t2 : a0_0 ≤ (rd_T100 l0_1 x).f1
        · have d2 : decide (a0_0 ≤ (rd_T100 l0_1 x).f1) = true := decide_eq_true t2
          have hr : r = false := by rw [← HG.out, step_lt HX.out.1 HL.out]; simp [edgeOk]; omega
          subst hr
          clear t0 t1 t2
          go_quiet (fail)
          go_wp2
          go_ret
          exact ⟨rfl, by repeat (first | exact HB.out | apply below_alloc | apply pw_below_drewN | apply below_drew)⟩
        have d2 : decide (a0_0 ≤ (rd_T100 l0_1 x).f1) = false := decide_eq_false t2
        by_cases t3 : 0 < x
        · have d3 : decide (0 < x) = true := decide_eq_true t3
          have hj : wrap64 (x - 1) = x - 1 := by have h1 := HL.out; have h2 := HX.out; have h3 := HR.out.2.1; unfold wrap64; omega
          obtain ⟨ji, hji⟩ : ∃ j : Int, j = x - 1 := ⟨_, rfl⟩
          have hjw : IntKind.i64.wrap (x - 1) = ji := ((i64_w _).trans hj).trans hji.symm
          have p1 : 0 ≤ ji := by omega
          have q1 : ji < (l0_1.length : Int) := by have := HL.out; omega
          have HJ := Aside0.mk hji
          clear hj hji
          obtain ⟨ad', e', hy0, hy1⟩ := at_T100 HR.out ji p1 q1
          cases e'
          replace hy0 := (HB.out.cell (World.block_lt_of_cell? w _ hy0)).trans hy0
          replace hy1 := (HB.out.cell (World.block_lt_of_cell? w _ hy1)).trans hy1
          replace p1 := eq_true p1
          replace q1 := eq_true q1
          obtain ⟨k, c, hc, hlt⟩ := cmp2 (rd_T100 l0_1 ji).f0 (rd_T100 l0_1 ji).f1 (rd_T100 l0_1 x).f0 (rd_T100 l0_1 x).f1
          have HCMP := Aside0.mk hc
          have HY := Aside0.mk (C_two hy0 hy1)
          clear hc
          by_cases t4 : 0 ≤ c
          · have d4 : decide (0 ≤ c) = true := decide_eq_true t4
            have hr : r = false := by
              rw [← HG.out, step_lt HX.out.1 HL.out]
              have : edgeLt (rd_T100 l0_1 ji) (rd_T100 l0_1 x) = false := by
                by_cases he : edgeLt (rd_T100 l0_1 ji) (rd_T100 l0_1 x) = true
                · exfalso; simp [edgeLt] at he; have := hlt.2 he; omega
                · simpa using he
              have hp : prevAt l0_1 x.toNat = some (rd_T100 l0_1 ji) := by unfold prevAt; rw [if_neg (by omega), HJ.out]; congr 2; omega
              rw [hp]; simp [this]
            subst hr
            clear t0 t1 t2 t3 t4 hlt
            go_quiet ((first | (go_at_call 90; refine (slices_Compare_int_int.calls k (some _) 2 [_, _] (some _) 2 [_, _] c _ (Kd.C_below HY.out (pw_below_drewN (below_alloc (Below.refl _ _) _) _)) (Nat.le_refl _) (C_two (by simp [go_sem]) (by simp [go_sem, Addr.add])) (Nat.le_refl _) HCMP.out).mono ?_; rintro e w' ⟨rfl, ⟨nd, rfl⟩⟩; exact ⟨rfl, _, World.drewN_drewN _ _ _⟩)))
            go_wp2
            go_ret
            exact ⟨rfl, by repeat (first | exact HB.out | apply below_alloc | apply pw_below_drewN | apply below_drew)⟩
          · have d4 : decide (0 ≤ c) = false := decide_eq_false t4
            have hr : Aside0 (goodL a0_0 (prevAt l0_1 (x + 1).toNat) (l0_1.drop (x + 1).toNat) = r) := ⟨by
              rw [← HG.out, step_lt HX.out.1 HL.out]
              have he : edgeLt (rd_T100 l0_1 ji) (rd_T100 l0_1 x) = true := by simp only [edgeLt, decide_eq_true_eq]; exact hlt.1 (by omega)
              have hp : prevAt l0_1 x.toNat = some (rd_T100 l0_1 ji) := by unfold prevAt; rw [if_neg (by omega), HJ.out]; congr 2; omega
              have ho : edgeOk a0_0 (rd_T100 l0_1 x) = true := by simp only [edgeOk, decide_eq_true_eq]; omega
              rw [hp, ho]; simp [he]⟩
            have HN : Aside0 (x + 1 ≤ l0_1.length ∧ x + 1 ≤ 9223372036854775807) := ⟨by have := HL.out; have := HR.out.2.1; omega⟩
            have hw1 : wrap64 (x + 1) = x + 1 := by have := HN.out; have := HX.out; unfold wrap64; omega
            have HW1 := Aside0.mk hw1
            clear t0 t1 t2 t3 t4 hlt hw1
            go_quiet ((first | (go_at_call 90; refine (slices_Compare_int_int.calls k (some _) 2 [_, _] (some _) 2 [_, _] c _ (Kd.C_below HY.out (pw_below_drewN (below_alloc (Below.refl _ _) _) _)) (Nat.le_refl _) (C_two (by simp [go_sem]) (by simp [go_sem, Addr.add])) (Nat.le_refl _) HCMP.out).mono ?_; rintro e w' ⟨rfl, ⟨nd, rfl⟩⟩; exact ⟨rfl, _, World.drewN_drewN _ _ _⟩)))
            go_wp2
            go_roundw
            case rel => exact ⟨x + 1, by rw [HW1.out], ⟨by have := HX.out; have := HN.out; omega⟩, hr, ⟨by (with_reducible repeat (first | refine blk_drewN ?_ _ | refine blk_drew ?_ | refine blk_alloc ?_ _)); exact BK.out⟩, ⟨by repeat (first | exact HB.out | apply below_alloc | apply pw_below_drewN | apply below_drew)⟩⟩
            case measure => have := HL.out; have := HX.out; rw [HW1.out]; simp [intOf]; omega
        · have d3 : decide (0 < x) = false := decide_eq_false t3
          obtain rfl : x = 0 := by have := HX.out; omega
          have hr : Aside0 (goodL a0_0 (prevAt l0_1 1) (l0_1.drop 1) = r) := ⟨by rw [← HG.out, step_lt HX.out.1 HL.out]; simp [edgeOk, prevAt]; omega⟩
          clear t0 t1 t2 t3
          go_quiet (fail)
          go_wp2
          go_roundw
          case rel => exact ⟨1, rfl, ⟨by omega, by have := HL.out; omega⟩, hr, ⟨by (with_reducible repeat (first | refine blk_drewN ?_ _ | refine blk_drew ?_ | refine blk_alloc ?_ _)); exact BK.out⟩, ⟨by repeat (first | exact HB.out | apply below_alloc | apply pw_below_drewN | apply below_drew)⟩⟩
          case measure => have := HL.out; simp [intOf]; omega
      · have hlt' : decide (x < (l0_1.length : Int)) = false := decide_eq_false hlt
        obtain rfl : true = r := by have := HG.out; rw [List.drop_eq_nil_of_le (by omega)] at this; simpa [goodL] using this
        clear hlt
        go_wp2
        go_ret
        exact ⟨rfl, HB.out⟩
  · have hw : impl_within.f a0_0 0 8 = some false := by 
      simp only [impl_within.f]
      split
      · simp; omega
      · rfl
    obtain rfl : false = r := by have := H.out; simpa [hn] using this
    have HW := Aside0.mk hw
    clear hw H
    go_enter Try.func48, Try.ntmps48
    go_wp2_with (go_at_call 49; refine (impl_within.calls _ _ _ _ _ HW.out).mono ?_; rintro e w' ⟨rfl, ⟨nd, rfl⟩⟩)
    go_ret
    exact ⟨rfl, by repeat (first | exact Below.refl _ _ | apply below_alloc | apply pw_below_drewN | apply below_drew | refine below_set ?_ (by simp))⟩

/-! ### impl_setOf: function 59 -/
def impl_setOf.l0 : Nat → Int → List Int → Int → Option (List Int)
  | 0, _, _, _ => none
  | k + 1, x0, x3, x4 => if 0 ≤ x4 then (if (shr .i64 x0 x4) = 0 then (some x3) else (if (Go.bits .and .i64 (shr .i64 x0 x4) 1) = 1 then (if x3.length < 17592186044416 then (impl_setOf.l0 k x0 (x3 ++ [x4]) (wrap64 (x4 + 1))) else (none)) else (impl_setOf.l0 k x0 x3 (wrap64 (x4 + 1))))) else (none)
def impl_setOf.f (k : Nat) (a0 : Int) : Option (List Int) := impl_setOf.l0 k a0 ([] : List Int) 0
theorem impl_setOf.mono_l : ∀ k, (∀ y0 y1 y2, LeO (impl_setOf.l0 k y0 y1 y2) (impl_setOf.l0 (k + 1) y0 y1 y2))
  | 0 => fun _ _ _ r h => by simp [impl_setOf.l0] at h
  | k + 1 => by
    have ih0 := impl_setOf.mono_l k
    · intro y0 y1 y2
      unfold impl_setOf.l0
      repeat' first
      | (with_reducible exact ih0 _ _ _)
      | (with_reducible exact LeO.refl _)
      | (with_reducible exact LeO.none _)
      | (with_reducible refine LeO.ite ?_ ?_)
      | (with_reducible refine LeO.bind ?_ (fun _ => ?_))
      | exact ih0 _ _ _
      | exact LeO.none _
      | refine LeO.ite ?_ ?_
      | refine LeO.bind ?_ (fun _ => ?_)
theorem impl_setOf.mono : ∀ a0 k, LeO (impl_setOf.f k a0) (impl_setOf.f (k + 1) a0) := by
  intro a0 k
  have ih0 := impl_setOf.mono_l k
  unfold impl_setOf.f
  repeat' first
      | (with_reducible exact ih0 _ _ _)
      | (with_reducible exact LeO.refl _)
      | (with_reducible exact LeO.none _)
      | (with_reducible refine LeO.ite ?_ ?_)
      | (with_reducible refine LeO.bind ?_ (fun _ => ?_))
      | exact ih0 _ _ _
      | exact LeO.none _
      | refine LeO.ite ?_ ?_
      | refine LeO.bind ?_ (fun _ => ?_)
set_option maxHeartbeats 8000000 in
set_option maxRecDepth 100000 in
theorem impl_setOf.calls (k : Nat) (a0 : Int) (r : List Int) (w : World) (h : impl_setOf.f k a0 = some r) :
    Calls Try.prog 59 #[.int .i64 a0] w fun e w' => ∃ v0_ : Value, e = .returned (v0_) ∧ Kd.R (Kd.int .i64) 3 w' w.heap.size (fun _ => True) v0_ r ∧ Below w.heap.size w w' := by
  have HB := Aside0.mk (Below.refl w.heap.size w)
  have H : (impl_setOf.l0 k a0 ([] : List Int) 0) = some r := h
  clear h
  have H' := Aside0.mk H
  clear H
  go_enter Try.func59, Try.ntmps59
  go_wp2
  go_loopg [3, 4] k (fun kq v3 v4 w' => ∃ (x3_1 : List Int) (x4_1 : Int), v4 = .int .i64 x4_1 ∧ Aside0 (impl_setOf.l0 kq a0 x3_1 x4_1 = some r) ∧ Aside0 (kq ≤ k) ∧ Aside0 (Kd.R (Kd.int .i64) 3 w' w.heap.size (fun _ => True) v3 x3_1) ∧ Aside0 (Below w.heap.size w w'))
  case atStart => exact ⟨(([] : List Int)), (0), (by first | rfl | (simp; done) | (simp [*]; done)), H', ⟨Nat.le_refl _⟩, ⟨by first | exact Kd.R_nil _ _ _ _ _ | exact Kd.N_nil _ _ _ _ _ | exact Kd.V_nil _ _ _ _ _ | exact Kd.Q_nil _ _ _ _ _ | exact Kd.S_nil _ _ _ _ _⟩, ⟨by repeat (first | (with_reducible first | exact HB.out | apply below_alloc | apply pw_below_drewN | apply below_drew1) | exact HB.out)⟩⟩
  case round =>
    clear H'
    obtain ⟨x3_1, x4_1, rfl, HA, HK1, HO_3, HB⟩ := hrel
    cases gk with
    | zero => exact absurd HA.out (by simp [impl_setOf.l0])
    | succ k1 =>
      have H := HA.out
      clear HA
      simp only [impl_setOf.l0] at H
      by_cases c2 : 0 ≤ x4_1
      · rw [if_pos c2] at H
        have c2b0 := eq_true c2
        have c2b1 : decide (0 ≤ x4_1) = true := decide_eq_true c2
        clear c2
        obtain ⟨ji3, hji3⟩ : ∃ j_ : Int, (shr .i64 a0 x4_1) = j_ := ⟨_, rfl⟩
        replace H : (if (ji3) = 0 then (some x3_1) else (if (Go.bits .and .i64 (ji3) 1) = 1 then (if x3_1.length < 17592186044416 then (impl_setOf.l0 k1 a0 (x3_1 ++ [x4_1]) (wrap64 (x4_1 + 1))) else (none)) else (impl_setOf.l0 k1 a0 x3_1 (wrap64 (x4_1 + 1))))) = some r := by first | (rw [hji3] at H; exact H) | (simp only [hji3] at H ⊢; exact H)
        have hji3_ : (a0 / 2 ^ min x4_1.toNat 64) = ji3 := hji3
        have hji3z : x4_1 ≤ 64 → (a0 / 2 ^ x4_1.toNat) = ji3 := shr_small hji3
        by_cases c4 : (ji3) = 0
        · rw [if_pos c4] at H
          have c4b0 : ((ji3) == 0) = true := beq_iff_eq.mpr c4
          have c4b1 : ((ji3) != 0) = false := bne_eq_false_iff_eq.mpr c4
          clear c4
          obtain rfl := Option.some.inj H
          go_wp2
          go_ret
          exact ⟨_, by first | rfl | (simp [errW_none, errW_some] <;> rfl) | (simp only [← hji3]; first | rfl | (simp [errW_none, errW_some] <;> rfl)) | (simp [*, errW_none, errW_some] <;> rfl), by (with_reducible repeat (first | apply Kd.R_alloc | apply Kd.R_drewN | apply Kd.R_drew)); exact HO_3.out, by repeat (first | (with_reducible first | exact HB.out | apply below_alloc | apply pw_below_drewN | apply below_drew1) | exact HB.out)⟩
        · rw [if_neg c4] at H
          have c4b0 : ((ji3) == 0) = false := beq_eq_false_iff_ne.mpr c4
          have c4b1 : ((ji3) != 0) = true := bne_iff_ne.mpr c4
          have c5b0 := eq_true (of_decide_eq_true (by first | (with_reducible assumption) | assumption) : 0 ≤ x4_1)
          by_cases c7 : (Go.bits .and .i64 (ji3) 1) = 1
          · rw [if_pos c7] at H
            have c7b0 : ((Go.bits .and .i64 (ji3) 1) == 1) = true := beq_iff_eq.mpr c7
            have c7b1 : ((Go.bits .and .i64 (ji3) 1) != 1) = false := bne_eq_false_iff_eq.mpr c7
            clear c7
            by_cases c8 : x3_1.length < 17592186044416
            · rw [if_pos c8] at H
              have LMc8 := Aside0.mk c8
              clear c8
              obtain ⟨y195, hy195⟩ : ∃ y_ : List Int, y_ = (x3_1 ++ [x4_1]) := ⟨_, rfl⟩
              replace H : (impl_setOf.l0 k1 a0 y195 (wrap64 (x4_1 + 1))) = some r := by first | (rw [hy195]; with_reducible exact H) | (have H2_ := (Option.bind_some _ _).symm.trans H; rw [hy195]; with_reducible exact H2_) | (have H2_ := (Option.bind_some _ _).symm.trans H; with_reducible exact H2_) | with_reducible exact H | (rw [hy195]; exact H) | exact H
              have Ny195 := Aside0.mk hy195
              clear hy195
              have H' := Aside0.mk H
              clear H
              go_wp2_with (first | ((with_reducible refine gate_builtin (b := .append) (xs := #[.tmp 16, .tmp 18]) rfl ?_); at_builtin; refine Kd.R_append (Kd.int .i64) (w0 := w) w.heap.size rfl (.tmp 16) (.tmp 18) 45 3 (.int .i64 0) 8 rfl Try.underlying45 info3 rfl (by decide) (by omega) u3 x3_1 x4_1 [.int .i64 x4_1] (fun _ => True) (fun _ => False) rfl rfl ?aP (fun _ hk => hk.elim) ?aF ?aO ?aB ?aS ?aL ?_; (case aP => exact rfl); (case aB => exact (by repeat (first | (with_reducible first | exact HB.out | apply below_alloc | apply pw_below_drewN | apply below_drew1) | exact HB.out))); (case aF => exact (fun _ _ => trivial)); (case aO => exact (by (with_reducible repeat (first | apply Kd.R_alloc | apply Kd.R_drewN | apply Kd.R_drew)); exact HO_3.out)); (case aS => exact (below_size (by repeat (first | (with_reducible first | exact HB.out | apply below_alloc | apply pw_below_drewN | apply below_drew1) | exact HB.out)))); (case aL => have := LMc8.out; omega); intro v196 w9 ho hb hg hat; rw [← Ny195.out] at ho; have n0_ := Aside0.mk (hb); have n1_ := Aside0.mk (ho); clear HB; clear HO_3; have HB := n0_; have HO197 := n1_; clear n0_ n1_; clear ho hb hg hat))
              go_roundg k1
              case measure => have := HK1.out; omega
              case rel => exact ⟨(y195), (wrap64 (x4_1 + 1)), (by first | rfl | (simp; done) | (simp [*]; done)), H', ⟨by have := HK1.out; omega⟩, ⟨by (with_reducible repeat (first | apply Kd.R_alloc | apply Kd.R_drewN | apply Kd.R_drew)); exact HO197.out⟩, ⟨by repeat (first | (with_reducible first | exact HB.out | apply below_alloc | apply pw_below_drewN | apply below_drew1) | exact HB.out)⟩⟩
            · rw [if_neg c8] at H
              exact absurd H (by simp)
          · rw [if_neg c7] at H
            have c7b0 : ((Go.bits .and .i64 (ji3) 1) == 1) = false := beq_eq_false_iff_ne.mpr c7
            have c7b1 : ((Go.bits .and .i64 (ji3) 1) != 1) = true := bne_iff_ne.mpr c7
            have H' := Aside0.mk H
            clear H
            go_wp2
            go_roundg k1
            case measure => have := HK1.out; omega
            case rel => exact ⟨(x3_1), (wrap64 (x4_1 + 1)), (by first | rfl | (simp; done) | (simp [*]; done)), H', ⟨by have := HK1.out; omega⟩, ⟨by (with_reducible repeat (first | apply Kd.R_alloc | apply Kd.R_drewN | apply Kd.R_drew)); exact HO_3.out⟩, ⟨by repeat (first | (with_reducible first | exact HB.out | apply below_alloc | apply pw_below_drewN | apply below_drew1) | exact HB.out)⟩⟩
      · rw [if_neg c2] at H
        exact absurd H (by simp)




/-! ### impl_isFar: function 66 -/
/-! #### slices.ContainsFunc at []int: by hand -/
def notYet (p : Int → Bool) (l : List Int) (i : Nat) : Prop := ∀ j, j < i → ∀ x, l[j]? = some x → p x = false
theorem notYet_all {p : Int → Bool} {l : List Int} (h : notYet p l l.length) : l.any p = false := by
  rw [List.any_eq_false]
  intro x hx
  obtain ⟨j, hj, rfl⟩ := List.getElem_of_mem hx
  simp [h j hj _ (List.getElem?_eq_getElem hj)]
theorem notYet_hit {p : Int → Bool} {l : List Int} {i : Nat} (hi : i < l.length) (h : p (rd l (i : Int)) = true) : l.any p = true := by
  rw [List.any_eq_true]
  refine ⟨l[i], List.getElem_mem hi, ?_⟩
  have : rd l (i : Int) = l[i] := by simp [rd, hi]
  rwa [← this]
theorem notYet_succ {p : Int → Bool} {l : List Int} {i : Nat} (hi : i < l.length) (h : notYet p l i) (hp : p (rd l (i : Int)) = false) : notYet p l (i + 1) := by
  intro j hj x hx
  by_cases e : j = i
  · subst e
    have : rd l (j : Int) = x := by simp [rd, hx]
    rwa [← this]
  · exact h j (by omega) x hx
set_option maxHeartbeats 1600000 in
set_option maxRecDepth 100000 in
theorem indexFunc_calls (g : Nat) (lb : Array Value) (eg : ∀ args w, (callFunc g args).run Try.prog w = .ok (.enter g args) w) (p : Int → Bool) (A : Option Addr) (c : Nat) (l : List Int) (w : World) (hr : Kd.C (Kd.int .i64) w A l.length l)
    (hp : ∀ x ∈ l, ∀ W, Below w.heap.size w W → Calls Try.prog g (#[.int .i64 x] ++ lb) W fun e w' => e = .returned (.bool (p x)) ∧ ∃ q, w' = W.drewN q) :
    Calls Try.prog 122 #[.slice A l.length c, .func (.func g) #[] lb] w fun e w' => (∃ j : Int, e = .returned (.int .i64 j) ∧ decide (0 ≤ j) = l.any p) ∧ ∃ q, w' = w.drewN q := by
  have HR := Aside0.mk hr
  have HP := Aside0.mk hp
  have hL := hr.2.1
  clear hr hp
  go_enter Try.func122, Try.ntmps122
  go_wp2
  go_loopg [5, 8] l.length (fun gg _ s8 wr => ∃ kk q : Nat, kk ≤ l.length ∧ l.length - kk ≤ gg ∧ s8 = .int .i64 (kk : Int) ∧ wr = w.drewN q ∧ Aside0 (notYet p l kk))
  case atStart => exact ⟨0, 0, Nat.zero_le _, by omega, rfl, rfl, ⟨fun j hj => absurd hj (Nat.not_lt_zero _)⟩⟩
  case round =>
    obtain ⟨kk, q, hkk, hg, rfl, rfl, NY⟩ := hrel
    by_cases hlt : kk < l.length
    · have hltz : (kk : Int) < (l.length : Int) := by omega
      have hk0 : (0 : Int) ≤ (kk : Int) := by omega
      obtain ⟨ad, rfl, hcell⟩ := Kd.at_int HR.out (kk : Int) hk0 hltz
      rw [Int.toNat_natCast] at hcell
      have hmem : rd l (kk : Int) ∈ l := by
        have : rd l (kk : Int) = l[kk] := by simp [rd, hlt]
        rw [this]; exact List.getElem_mem hlt
      have hcall := HP.out (rd l (kk : Int)) hmem (w.drewN q) (pw_below_drewN (Below.refl _ _) q)
      generalize hx : rd l (kk : Int) = x at hcell hcall
      have HX := Aside0.mk hx
      clear hx hmem
      cases hq : p x with
      | true =>
        rw [hq] at hcall
        go_wp2_with (go_at_fn g; refine hcall.mono ?_; rintro e w' ⟨rfl, q', rfl⟩)
        go_ret
        exact ⟨⟨_, rfl, by rw [notYet_hit hlt (by rw [HX.out]; exact hq)]; simp⟩, _, rfl⟩
      | false =>
        rw [hq] at hcall
        go_wp2_with (go_at_fn g; refine hcall.mono ?_; rintro e w' ⟨rfl, q', rfl⟩)
        go_roundg (l.length - (kk + 1))
        case measure => omega
        case rel => exact ⟨kk + 1, _, by omega, by omega, by first | rfl | go_num, rfl, ⟨notYet_succ hlt NY.out (by rw [HX.out]; exact hq)⟩⟩
    · have hltz : ¬ (kk : Int) < (l.length : Int) := by omega
      obtain rfl : kk = l.length := by omega
      go_wp2
      go_ret
      exact ⟨⟨-1, rfl, by rw [notYet_all NY.out]; rfl⟩, q, rfl⟩
set_option maxHeartbeats 1600000 in
theorem containsFunc_calls (g : Nat) (lb : Array Value) (eg : ∀ args w, (callFunc g args).run Try.prog w = .ok (.enter g args) w) (p : Int → Bool) (A : Option Addr) (c : Nat) (l : List Int) (w : World) (hr : Kd.C (Kd.int .i64) w A l.length l)
    (hp : ∀ x ∈ l, ∀ W, Below w.heap.size w W → Calls Try.prog g (#[.int .i64 x] ++ lb) W fun e w' => e = .returned (.bool (p x)) ∧ ∃ q, w' = W.drewN q) :
    Calls Try.prog 108 #[.slice A l.length c, .func (.func g) #[] lb] w fun e w' => e = .returned (.bool (l.any p)) ∧ ∃ q, w' = w.drewN q := by
  have hcon := indexFunc_calls g lb eg p A c l w hr hp
  go_enter Try.func108, Try.ntmps108
  go_wp2_with (go_at_call 122; refine hcon.mono ?_; rintro e w' ⟨⟨j, rfl, hj⟩, q, rfl⟩)
  go_ret
  exact ⟨rfl, q, rfl⟩

/-- A node that is too near. -/
def farHit (dist : List (List Int)) (kk x y : Int) : Bool := decide (0 ≤ rd (rd_L2 dist x) y) && decide (rd (rd_L2 dist x) y < wrap64 (wrap64 (2 * kk) - 1))
def farGo (dist : List (List Int)) (kk : Int) : List Int → List Int → Option Bool
  | _, [] => some true
  | pre, x :: rest => if ∀ y ∈ pre, (0 ≤ x ∧ x < (dist.length : Int)) ∧ (0 ≤ y ∧ y < ((rd_L2 dist x).length : Int)) then (if pre.any (farHit dist kk x) = true then some false else farGo dist kk (pre ++ [x]) rest) else none
def impl_isFar.f (l0 : List (List Int)) (l1 : List Int) (a2 : Int) : Option Bool := farGo l0 a2 [] l1
set_option maxHeartbeats 1600000 in
set_option maxRecDepth 100000 in
theorem isFar_fn (gD gX gK : Nat) (A : Option Addr) (c : Nat) (dist : List (List Int)) (x kk y : Int) (W : World) (hD : W.cell? ⟨gD, 0, none⟩ = some (.slice A dist.length c)) (hX : W.cell? ⟨gX, 0, none⟩ = some (.int .i64 x)) (hK : W.cell? ⟨gK, 0, none⟩ = some (.int .i64 kk)) (hC : Kd.C (Kd.slice 3 (Kd.int .i64)) W A dist.length dist)
    (h0 : 0 ≤ x) (h1 : x < (dist.length : Int)) (h2 : 0 ≤ y) (h3 : y < ((rd_L2 dist x).length : Int)) :
    Calls Try.prog 109 (#[.int .i64 y] ++ #[.pointer (some ⟨gD, 0, none⟩), .pointer (some ⟨gX, 0, none⟩), .pointer (some ⟨gK, 0, none⟩)]) W fun e w' => e = .returned (.bool (farHit dist kk x y)) ∧ ∃ q, w' = W.drewN q := by
  obtain ⟨ad, A0, c0, rfl, hx0, hl0, hi0⟩ := at_L2 hC x h0 h1
  obtain ⟨ad1, rfl, hx1⟩ := Kd.at_int hi0 y h2 h3
  have hr : farHit dist kk x y = (decide (0 ≤ rd (rd_L2 dist x) y) && decide (rd (rd_L2 dist x) y < wrap64 (wrap64 (2 * kk) - 1))) := rfl
  rw [hr]
  have p0 : (0 ≤ x) = True := eq_true h0
  have p1 : (x < (dist.length : Int)) = True := eq_true h1
  have p2 : (0 ≤ y) = True := eq_true h2
  have p3 : (y < ((rd_L2 dist x).length : Int)) = True := eq_true h3
  clear hr hl0 hi0 hC h0 h1 h2 h3
  generalize rd (rd_L2 dist x) y = d at hx1 ⊢
  generalize (rd_L2 dist x).length = m at hx0 p3
  generalize dist.length = n at hD p1
  show Calls Try.prog 109 #[.int .i64 y, .pointer (some ⟨gD, 0, none⟩), .pointer (some ⟨gX, 0, none⟩), .pointer (some ⟨gK, 0, none⟩)] W _
  by_cases hd : 0 ≤ d
  · have e0 : decide (0 ≤ d) = true := decide_eq_true hd
    have e1 : decide (d ≥ 0) = true := decide_eq_true hd
    have e2 : (0 ≤ d) = True := eq_true hd
    rw [e0, Bool.true_and]
    clear hd
    go_enter Try.func109, Try.ntmps109
    go_wp2
    go_quiet (fail)
    go_wp2
    go_ret
    exact ⟨by first | rfl | simp, _, by first | rfl | exact World.drewN_drewN _ _ _⟩
  · have e0 : decide (0 ≤ d) = false := decide_eq_false hd
    have e1 : decide (d ≥ 0) = false := decide_eq_false hd
    have e2 : (0 ≤ d) = False := eq_false hd
    rw [e0, Bool.false_and]
    clear hd
    go_enter Try.func109, Try.ntmps109
    go_wp2
    go_quiet (fail)
    go_wp2
    go_ret
    exact ⟨by first | rfl | simp, _, by first | rfl | exact World.drewN_drewN _ _ _⟩
theorem farGo_nil (dist : List (List Int)) (kk : Int) (pre : List Int) : farGo dist kk pre [] = some true := by unfold farGo; rfl
theorem farGo_use {dist : List (List Int)} {kk : Int} {l : List Int} {i : Nat} (hi : i < l.length) {r : Bool} (h : farGo dist kk (l.take i) (l.drop i) = some r) :
    (∀ y ∈ l.take i, (0 ≤ rd l (i : Int) ∧ rd l (i : Int) < (dist.length : Int)) ∧ (0 ≤ y ∧ y < ((rd_L2 dist (rd l (i : Int))).length : Int))) ∧
      (((l.take i).any (farHit dist kk (rd l (i : Int))) = true ∧ r = false) ∨ ((l.take i).any (farHit dist kk (rd l (i : Int))) = false ∧ farGo dist kk (l.take (i + 1)) (l.drop (i + 1)) = some r)) := by
  have e : rd l (i : Int) = l[i] := by simp [rd, hi]
  rw [List.drop_eq_getElem_cons hi] at h
  unfold farGo at h
  rw [e]
  split at h
  · rename_i hv
    refine ⟨hv, ?_⟩
    split at h
    · rename_i ha; exact .inl ⟨ha, (Option.some.inj h).symm⟩
    · rename_i ha
      refine .inr ⟨by simpa using ha, ?_⟩
      rw [List.take_succ_eq_append_getElem hi]; exact h
  · cases h
set_option maxHeartbeats 3200000 in
set_option maxRecDepth 100000 in
theorem impl_isFar.calls (A0 : Option Addr) (c0 : Nat) (l0 : List (List Int)) (A1 : Option Addr) (c1 : Nat) (l1 : List Int) (a2 : Int) (r : Bool) (w : World) (hr0 : Kd.C (Kd.slice 3 (Kd.int .i64)) w A0 l0.length l0) (hc0 : l0.length ≤ c0) (hr1 : Kd.C (Kd.int .i64) w A1 l1.length l1) (hc1 : l1.length ≤ c1) (h : impl_isFar.f l0 l1 a2 = some r) :
    Calls Try.prog 66 #[.slice A0 l0.length c0, .slice A1 l1.length c1, .int .i64 a2] w fun e w' => e = .returned (.bool r) ∧ Below w.heap.size w w' := by
  have HR0 := Aside0.mk hr0
  have HR1 := Aside0.mk hr1
  have HL1 := hr1.2.1
  have HC1 := Aside0.mk hc1
  clear hr0 hc0 hr1 hc1
  have HF : Aside0 (farGo l0 a2 (l1.take 0) (l1.drop 0) = some r) := ⟨h⟩
  clear h
  have HB := Aside0.mk (Below.refl w.heap.size w)
  go_enter Try.func66, Try.ntmps66
  go_wp2_with (first | ((with_reducible refine gate_dst (N := 3) rfl ?_); refine box_event ?hg (N := 3) ?hd (cs := #[.slice A0 l0.length c0]) (t := 38) ?hr ?_; (case hd => rfl); (case hg => rfl); (case hr => first | (go_simp; done) | (go_simp; rfl)); intro gD hg w1 hbox hb; have n0_ := Aside0.mk (below_step HB.out hb); have BKD := Aside0.mk hbox; have GD := Aside0.mk ((by rw [hg]; exact Nat.le_refl _) : w.heap.size ≤ gD); clear HB; have HB := n0_; clear n0_ hb hbox hg) | ((with_reducible refine gate_dst (N := 5) rfl ?_); refine box_event ?hg (N := 5) ?hd (cs := #[.int .i64 a2]) (t := 3) ?hr ?_; (case hd => rfl); (case hg => rfl); (case hr => first | (go_simp; done) | (go_simp; rfl)); intro gK hg w2 hbox hb; have n0_ := Aside0.mk (below_step HB.out hb); have n1_ := Aside0.mk (blk_below (g := gD) (o := .cells #[.slice A0 l0.length c0] 38 (0, 0)) BKD.out hb); have BKK := Aside0.mk hbox; clear HB BKD; have HB := n0_; have BKD := n1_; clear n0_ n1_ hb hbox hg))
  go_loopg [11] l1.length (fun gg v11 wr => ∃ i : Nat, v11 = .int .i64 (i : Int) ∧ Aside0 (i ≤ l1.length ∧ l1.length - i ≤ gg) ∧ Aside0 (farGo l0 a2 (l1.take i) (l1.drop i) = some r) ∧ Aside0 (wr.heap[gD]? = some (.cells #[.slice A0 l0.length c0] 38 (0, 0))) ∧ Aside0 (wr.heap[gK]? = some (.cells #[.int .i64 a2] 3 (0, 0))) ∧ Aside0 (Below w.heap.size w wr))
  case atStart => exact ⟨0, rfl, ⟨Nat.zero_le _, by omega⟩, HF, BKD, BKK, HB⟩
  case round =>
    clear HF BKD BKK HB
    obtain ⟨i, rfl, HN, HF, BKD, BKK, HB⟩ := hrel
    by_cases hlt : i < l1.length
    · have hltz : (i : Int) < (l1.length : Int) := by omega
      have hi0 : (0 : Int) ≤ (i : Int) := by omega
      obtain ⟨hv, hcase⟩ := farGo_use hlt HF.out
      obtain ⟨ad, rfl, hcell⟩ := Kd.at_int (Kd.C_below HR1.out HB.out) (i : Int) hi0 hltz
      rw [Int.toNat_natCast] at hcell
      have HV := Aside0.mk hv
      have HCA := Aside0.mk hcase
      clear hv hcase HF
      have HT : Aside0 ((l1.take i).length = i) := ⟨by rw [List.length_take]; omega⟩
      generalize hx : rd l1 (i : Int) = x at hcell HV HCA
      clear hx
      have i1 : ((i : Int) ≤ (c1 : Int)) = True := eq_true (by have := HC1.out; omega)
      go_wp2_with (first | ((with_reducible refine gate_dst (N := 8) rfl ?_); refine box_event ?hg (N := 8) ?hd (cs := #[.int .i64 0]) (t := 3) ?hr ?_; (case hd => rfl); (case hg => rfl); (case hr => first | (go_simp; done) | (go_simp; rfl)); intro gX hg w3 hbox hb; have nd_ := Aside0.mk (by rw [hg]; exact Nat.ne_of_lt (blk_lt BKD.out) : gD ≠ gX); have nk_ := Aside0.mk (by rw [hg]; exact Nat.ne_of_lt (blk_lt BKK.out) : gK ≠ gX); have GX := Aside0.mk (by rw [hg]; exact below_size HB.out : w.heap.size ≤ gX); have n0_ := Aside0.mk (below_step HB.out hb); have n1_ := Aside0.mk (blk_below (g := gD) (o := .cells #[.slice A0 l0.length c0] 38 (0, 0)) BKD.out hb); have n2_ := Aside0.mk (blk_below (g := gK) (o := .cells #[.int .i64 a2] 3 (0, 0)) BKK.out hb); have BKX := Aside0.mk hbox; clear HB BKD BKK; have HB := n0_; have BKD := n1_; have BKK := n2_; clear n0_ n1_ n2_ hb hbox hg; have hcz := (blk_cell BKX.out 0).trans rfl; have hfz := blk_frozen BKX.out 0) | ((with_reducible refine gate_store (t := 3) (p := 8) rfl ?_); refine store_event (t := 3) (p := 8) (v := ?vo_) (w1 := (w3.setCell ⟨gX, 0, none⟩ (.int .i64 x))) ?hg ?ho ?hn ?hr ?_; (case ho => rfl); (case hg => rfl); (case hn => rfl); (case hr => first | (go_simp; done) | (go_simp; rfl)); intro w4 hw; have n0_ := Aside0.mk (show w4.heap[gD]? = some (.cells #[.slice A0 l0.length c0] 38 (0, 0)) from by rw [hw]; exact blk_far BKD.out nd_.out _); have n1_ := Aside0.mk (show w4.heap[gK]? = some (.cells #[.int .i64 a2] 3 (0, 0)) from by rw [hw]; exact blk_far BKK.out nk_.out _); have n2_ := Aside0.mk (show w4.heap[gX]? = some (.cells #[.int .i64 x] 3 (0, 0)) from by rw [hw]; exact blk_put (cs := #[.int .i64 0]) BKX.out 0 _ rfl); have n3_ := Aside0.mk (show Below w.heap.size w w4 from by rw [hw]; exact below_set HB.out GX.out); clear BKD BKK BKX HB hw hcz hfz; have BKD := n0_; have BKK := n1_; have BKX := n2_; have HB := n3_; clear n0_ n1_ n2_ n3_ nd_ nk_))
      have hcD := (blk_cell BKD.out 0).trans rfl
      have hcX := (blk_cell BKX.out 0).trans rfl
      have hcK := (blk_cell BKK.out 0).trans rfl
      have hgD := blk_lt BKD.out
      have hgX := blk_lt BKX.out
      have hgK := blk_lt BKK.out
      have hcon := containsFunc_calls 109 _ (enters_of Try.func109 (by kernel_rfl) rfl) (farHit l0 a2 x) (some ad) c1 (l1.take i) w4 (Kd.C_take (Kd.C_below HR1.out HB.out) HN.out.1) (fun y hy W hb => isFar_fn gD gX gK A0 c0 l0 x a2 y W ((hb.cell (p := ⟨gD, 0, none⟩) hgD).trans hcD) ((hb.cell (p := ⟨gX, 0, none⟩) hgX).trans hcX) ((hb.cell (p := ⟨gK, 0, none⟩) hgK).trans hcK) (Kd.C_below (Kd.C_below HR0.out HB.out) hb) (HV.out y hy).1.1 (HV.out y hy).1.2 (HV.out y hy).2.1 (HV.out y hy).2.2)
      rw [HT.out] at hcon
      clear hcD hcX hcK hgD hgX hgK
      refine hcon.mono ?_
      clear hcon
      rintro e w' ⟨rfl, q, rfl⟩
      have n0_ := Aside0.mk (blk_drewN BKD.out q)
      have n1_ := Aside0.mk (blk_drewN BKK.out q)
      have n2_ := Aside0.mk (pw_below_drewN HB.out q)
      clear BKD BKK BKX HB HV
      generalize w4.drewN q = w5 at n0_ n1_ n2_ ⊢
      rcases HCA.out with ⟨ha, hb⟩ | ⟨ha, hb⟩
      · rw [ha]
        subst hb
        clear HCA ha
        go_wp2
        go_ret
        exact ⟨rfl, n2_.out⟩
      · rw [ha]
        have hn_ := Aside0.mk hb
        clear HCA ha hb
        go_wp2
        go_roundg (l1.length - (i + 1))
        case measure => have := HN.out; omega
        case rel => exact ⟨i + 1, by first | rfl | go_num, ⟨by omega, Nat.le_refl _⟩, hn_, n0_, n1_, n2_⟩
    · have hltz : ¬ (i : Int) < (l1.length : Int) := by omega
      obtain rfl : i = l1.length := by have := HN.out; omega
      have hr : r = true := by have h := HF.out; rw [List.drop_length, farGo_nil] at h; exact (Option.some.inj h).symm
      subst hr
      go_wp2
      go_ret
      exact ⟨rfl, HB.out⟩

/-! ### impl_net_around: function 105 -/
def impl_net_around.l0 : Nat → Int → Int → List Int → Int → Int → Option (Int)
  | 0, _, _, _, _, _ => none
  | k + 1, x1, x5, x10, x11, x12 => if x12 < x11 then (if 0 ≤ x12 then (if x12 < (x10.length : Int) then (if (Go.bits .and .i64 (shr .i64 x1 x12) 1) = 1 then (impl_net_around.l0 k x1 (Go.bits .or .i64 x5 (rd x10 x12)) x10 x11 (wrap64 (x12 + 1))) else (impl_net_around.l0 k x1 x5 x10 x11 (wrap64 (x12 + 1)))) else (none)) else (none)) else (some x5)
def impl_net_around.f (k : Nat) (l0_0 : List Int) (a1 : Int) : Option (Int) := impl_net_around.l0 k a1 a1 l0_0 (l0_0.length : Int) 0
theorem impl_net_around.mono_l : ∀ k, (∀ y0 y1 y2 y3 y4, LeO (impl_net_around.l0 k y0 y1 y2 y3 y4) (impl_net_around.l0 (k + 1) y0 y1 y2 y3 y4))
  | 0 => fun _ _ _ _ _ r h => by simp [impl_net_around.l0] at h
  | k + 1 => by
    have ih0 := impl_net_around.mono_l k
    · intro y0 y1 y2 y3 y4
      unfold impl_net_around.l0
      repeat' first
      | (with_reducible exact ih0 _ _ _ _ _)
      | (with_reducible exact LeO.refl _)
      | (with_reducible exact LeO.none _)
      | (with_reducible refine LeO.ite ?_ ?_)
      | (with_reducible refine LeO.bind ?_ (fun _ => ?_))
      | exact ih0 _ _ _ _ _
      | exact LeO.none _
      | refine LeO.ite ?_ ?_
      | refine LeO.bind ?_ (fun _ => ?_)
theorem impl_net_around.mono : ∀ a0 a1 k, LeO (impl_net_around.f k a0 a1) (impl_net_around.f (k + 1) a0 a1) := by
  intro a0 a1 k
  have ih0 := impl_net_around.mono_l k
  unfold impl_net_around.f
  repeat' first
      | (with_reducible exact ih0 _ _ _ _ _)
      | (with_reducible exact LeO.refl _)
      | (with_reducible exact LeO.none _)
      | (with_reducible refine LeO.ite ?_ ?_)
      | (with_reducible refine LeO.bind ?_ (fun _ => ?_))
      | exact ih0 _ _ _ _ _
      | exact LeO.none _
      | refine LeO.ite ?_ ?_
      | refine LeO.bind ?_ (fun _ => ?_)
set_option maxHeartbeats 8000000 in
set_option maxRecDepth 100000 in
theorem impl_net_around.calls (k : Nat) (A0_0 : Option Addr) (c0_0 : Nat) (l0_0 : List Int) (a1 : Int) (r : Int) (w : World) (hr0_0 : Kd.C (Kd.int .i64) w A0_0 l0_0.length l0_0) (hc0_0 : l0_0.length ≤ c0_0) (h : impl_net_around.f k l0_0 a1 = some r) :
    Calls Try.prog 105 #[.agg #[.slice A0_0 l0_0.length c0_0], .int .i64 a1] w fun e w' => e = .returned (.int .i64 r) ∧ Below w.heap.size w w' := by
  have hu66 := Try.underlying66
  have HR0_0 := Aside0.mk hr0_0
  have HC0_0 := Aside0.mk hc0_0
  clear hr0_0 hc0_0
  have HB := Aside0.mk (Below.refl w.heap.size w)
  have H : (impl_net_around.l0 k a1 a1 l0_0 (l0_0.length : Int) 0) = some r := h
  clear h
  have H' := Aside0.mk H
  clear H
  go_enter Try.func105, Try.ntmps105
  go_wp2_with (first | ((with_reducible refine gate_dst (N := 2) rfl ?_); refine box_event ?hg (N := 2) ?hd (cs := #[.slice A0_0 l0_0.length c0_0]) (t := 66) ?hr ?_; (case hd => rfl); (case hg => rfl); (case hr => first | (go_simp; done) | (go_simp; rfl)); intro gb201 hg w3 hbox hb; have n0_ := Aside0.mk (below_step (by repeat (first | (with_reducible first | exact HB.out | apply below_alloc | apply pw_below_drewN | apply below_drew1) | exact HB.out)) hb); have n1_ := Aside0.mk (hbox); have n2_ := Aside0.mk ((by rw [hg]; exact (below_size (by repeat (first | (with_reducible first | exact HB.out | apply below_alloc | apply pw_below_drewN | apply below_drew1) | exact HB.out))) : w.heap.size ≤ gb201)); have n3_ := Aside0.mk ((by rw [hg]; exact (below_size (by repeat (first | (with_reducible first | exact HB.out | apply below_alloc | apply pw_below_drewN | apply below_drew1) | exact HB.out))) : w.heap.size ≤ gb201)); clear HB; have HB := n0_; have BK201 := n1_; have GW201 := n2_; have GE201 := n3_; clear n0_ n1_ n2_ n3_; clear hb hbox hg; have hcz4_0 : w3.cell? ⟨gb201, 0, none⟩ = some (.slice A0_0 l0_0.length c0_0) := (blk_cell BK201.out 0).trans rfl; have hfz4_0 := blk_frozen BK201.out 0))
  go_loopg [5, 12] k (fun kq v5 v12 w' => ∃ (x5_1 : Int) (x12_1 : Int), v5 = .int .i64 x5_1 ∧ v12 = .int .i64 x12_1 ∧ Aside0 (impl_net_around.l0 kq a1 x5_1 l0_0 (l0_0.length : Int) x12_1 = some r) ∧ Aside0 (kq ≤ k) ∧ Aside0 (w'.heap[gb201]? = some (.cells #[(.slice A0_0 l0_0.length c0_0)] 66 (0, 0))) ∧ Aside0 (Below w.heap.size w w'))
  case atStart => exact ⟨(a1), (0), (by first | rfl | (simp; done) | (simp [*]; done)), (by first | rfl | (simp; done) | (simp [*]; done)), H', ⟨Nat.le_refl _⟩, ⟨by (with_reducible repeat (first | refine blk_drewN ?_ _ | refine blk_drew ?_ | refine blk_alloc ?_ _)); exact BK201.out⟩, ⟨by repeat (first | (with_reducible first | exact HB.out | apply below_alloc | apply pw_below_drewN | apply below_drew1 | refine below_set ?_ GE201.out) | exact HB.out)⟩⟩
  case round =>
    clear H'
    try clear c1
    try clear p2
    try clear hcz4_0
    try clear hfz4_0
    obtain ⟨x5_1, x12_1, rfl, rfl, HA, HK1, BK201, HB⟩ := hrel
    cases gk with
    | zero => exact absurd HA.out (by simp [impl_net_around.l0])
    | succ k1 =>
      have H := HA.out
      clear HA
      simp only [impl_net_around.l0] at H
      by_cases c5 : x12_1 < (l0_0.length : Int)
      · rw [if_pos c5] at H
        have c5b0 : decide (x12_1 < (l0_0.length : Int)) = true := decide_eq_true c5
        clear c5
        by_cases c6 : 0 ≤ x12_1
        · rw [if_pos c6] at H
          have c6b0 : decide (0 ≤ x12_1) = true := decide_eq_true c6
          clear c6
          by_cases c7 : x12_1 < (l0_0.length : Int)
          · rw [if_pos c7] at H
            have c7b0 : decide (x12_1 < (l0_0.length : Int)) = true := decide_eq_true c7
            clear c7
            have c8b0 := eq_true (of_decide_eq_true (by first | (with_reducible assumption) | assumption) : 0 ≤ x12_1)
            obtain ⟨ji9, hji9⟩ : ∃ j_ : Int, (shr .i64 a1 x12_1) = j_ := ⟨_, rfl⟩
            replace H : (if (Go.bits .and .i64 (ji9) 1) = 1 then (impl_net_around.l0 k1 a1 (Go.bits .or .i64 x5_1 (rd l0_0 x12_1)) l0_0 (l0_0.length : Int) (wrap64 (x12_1 + 1))) else (impl_net_around.l0 k1 a1 x5_1 l0_0 (l0_0.length : Int) (wrap64 (x12_1 + 1)))) = some r := by first | (rw [hji9] at H; exact H) | (simp only [hji9] at H ⊢; exact H)
            have hji9_ : (a1 / 2 ^ min x12_1.toNat 64) = ji9 := hji9
            have hji9z : x12_1 ≤ 64 → (a1 / 2 ^ x12_1.toNat) = ji9 := shr_small hji9
            by_cases c10 : (Go.bits .and .i64 (ji9) 1) = 1
            · rw [if_pos c10] at H
              have c10b0 : ((Go.bits .and .i64 (ji9) 1) == 1) = true := beq_iff_eq.mpr c10
              have c10b1 : ((Go.bits .and .i64 (ji9) 1) != 1) = false := bne_eq_false_iff_eq.mpr c10
              clear c10
              have H' := Aside0.mk H
              clear H
              have p202 : 0 ≤ (x12_1 : Int) := of_decide_eq_true (by first | (with_reducible assumption) | assumption)
              have q202 : x12_1 < (l0_0.length : Int) := of_decide_eq_true (by first | (with_reducible assumption) | assumption)
              obtain ⟨ad202, e202, hx202_0⟩ := Kd.at_int HR0_0.out x12_1 p202 q202
              cases e202
              replace hx202_0 := (HB.out.cell (World.block_lt_of_cell? w _ hx202_0)).trans hx202_0
              replace p202 := eq_true p202
              replace q202 := eq_true q202
              go_wp2
              go_roundg k1
              case measure => have := HK1.out; omega
              case rel => exact ⟨(Go.bits .or .i64 x5_1 (rd l0_0 x12_1)), (wrap64 (x12_1 + 1)), (by first | rfl | (simp; done) | (simp [*]; done)), (by first | rfl | (simp; done) | (simp [*]; done)), H', ⟨by have := HK1.out; omega⟩, ⟨by (with_reducible repeat (first | refine blk_drewN ?_ _ | refine blk_drew ?_ | refine blk_alloc ?_ _)); exact BK201.out⟩, ⟨by repeat (first | (with_reducible first | exact HB.out | apply below_alloc | apply pw_below_drewN | apply below_drew1 | refine below_set ?_ GE201.out) | exact HB.out)⟩⟩
            · rw [if_neg c10] at H
              have c10b0 : ((Go.bits .and .i64 (ji9) 1) == 1) = false := beq_eq_false_iff_ne.mpr c10
              have c10b1 : ((Go.bits .and .i64 (ji9) 1) != 1) = true := bne_iff_ne.mpr c10
              have H' := Aside0.mk H
              clear H
              have p202 : 0 ≤ (x12_1 : Int) := of_decide_eq_true (by first | (with_reducible assumption) | assumption)
              have q202 : x12_1 < (l0_0.length : Int) := of_decide_eq_true (by first | (with_reducible assumption) | assumption)
              obtain ⟨ad202, e202, hx202_0⟩ := Kd.at_int HR0_0.out x12_1 p202 q202
              cases e202
              replace hx202_0 := (HB.out.cell (World.block_lt_of_cell? w _ hx202_0)).trans hx202_0
              replace p202 := eq_true p202
              replace q202 := eq_true q202
              go_wp2
              go_roundg k1
              case measure => have := HK1.out; omega
              case rel => exact ⟨(x5_1), (wrap64 (x12_1 + 1)), (by first | rfl | (simp; done) | (simp [*]; done)), (by first | rfl | (simp; done) | (simp [*]; done)), H', ⟨by have := HK1.out; omega⟩, ⟨by (with_reducible repeat (first | refine blk_drewN ?_ _ | refine blk_drew ?_ | refine blk_alloc ?_ _)); exact BK201.out⟩, ⟨by repeat (first | (with_reducible first | exact HB.out | apply below_alloc | apply pw_below_drewN | apply below_drew1 | refine below_set ?_ GE201.out) | exact HB.out)⟩⟩
          · rw [if_neg c7] at H
            exact absurd H (by simp)
        · rw [if_neg c6] at H
          exact absurd H (by simp)
      · rw [if_neg c5] at H
        have c5b0 : decide (x12_1 < (l0_0.length : Int)) = false := decide_eq_false c5
        clear c5
        obtain rfl := Option.some.inj H
        go_wp2
        go_ret
        exact ⟨by first | rfl | (simp [errW_none, errW_some] <;> rfl) | (simp [*, errW_none, errW_some] <;> rfl), by repeat (first | (with_reducible first | exact HB.out | apply below_alloc | apply pw_below_drewN | apply below_drew1 | refine below_set ?_ GE201.out) | exact HB.out)⟩


end Go.Proofs.Ytbhkimopcliepaa.QFarBound
