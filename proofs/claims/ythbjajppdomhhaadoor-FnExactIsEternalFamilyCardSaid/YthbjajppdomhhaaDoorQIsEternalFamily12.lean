import Derived.Test.YthbjajppdomhhaaDoorQIsEternalFamily0
import Derived.Test.YthbjajppdomhhaaDoorQIsEternalFamily9
import Derived.Test.YthbjajppdomhhaaDoorQIsEternalFamily11
namespace Go.Proofs.YthbjajppdomhhaaDoor.QIsEternalFamily
open Go.RowKit Go.Proofs.YthbjajppdomhhaaDoorW.PrintWords Go.Proofs.YthbjajppdomhhaaDoorW.PrintLast Go.Proofs.YthbjajppdomhhaaDoorW.PrintMore
attribute [local go_sem] max2_int min2_int max_two min_two max_three min_three max_four min_four   -- for this text's walks alone
set_option linter.unusedVariables false
set_option linter.unusedSimpArgs false
/-! ### impl_hasNodes: function 92 -/
def impl_hasNodes.f (k : Nat) (a0_0 : Int) (l0_1 : List (S92)) (l1 : List Int) : Option (Bool) := (impl_IsGraph.f a0_0 l0_1).bind fun t398 => (if t398 = true then ((impl_allWithin.f k l1 0 (wrap64 (a0_0 - 1))).bind fun t399 => (some t399)) else (some false))
theorem impl_hasNodes.mono : ∀ a0 a1 a2 k, LeO (impl_hasNodes.f k a0 a1 a2) (impl_hasNodes.f (k + 1) a0 a1 a2) := by
 intro a0 a1 a2 k
 unfold impl_hasNodes.f
 repeat' first
   | (with_reducible exact impl_allWithin.mono _ _ _ _)
   | (with_reducible exact LeO.refl _)
   | (with_reducible exact LeO.none _)
   | (with_reducible refine LeO.ite ?_ ?_)
   | (with_reducible refine LeO.bind ?_ (fun _ => ?_))
   | exact impl_allWithin.mono _ _ _ _
   | exact LeO.none _
   | refine LeO.ite ?_ ?_
   | refine LeO.bind ?_ (fun _ => ?_)
set_option maxHeartbeats 8000000 in
set_option maxRecDepth 100000 in
theorem impl_hasNodes.calls (k : Nat) (a0_0 : Int) (A0_1 : Option Addr) (c0_1 : Nat) (l0_1 : List (S92)) (A1 : Option Addr) (c1 : Nat) (l1 : List Int) (r : Bool) (w : World) (hr0_1 : Kd.C k92 w A0_1 l0_1.length l0_1) (hc0_1 : l0_1.length ≤ c0_1) (hr1 : Kd.C (Kd.int .i64) w A1 l1.length l1) (hc1 : l1.length ≤ c1) (h : impl_hasNodes.f k a0_0 l0_1 l1 = some r) :
  Calls Tryd.prog 92 #[.agg #[.int .i64 a0_0, .slice A0_1 l0_1.length c0_1], .slice A1 l1.length c1] w fun e w' => e = .returned (.bool r) ∧ Below w.heap.size w w' := by
 have hu28 := Tryd.underlying28
 have HR0_1 := Aside0.mk hr0_1
 have HC0_1 := Aside0.mk hc0_1
 clear hr0_1 hc0_1
 have HR1 := Aside0.mk hr1
 have HC1 := Aside0.mk hc1
 clear hr1 hc1
 have HB := Aside0.mk (Below.refl w.heap.size w)
 have H : ((impl_IsGraph.f a0_0 l0_1).bind fun t398 => (if t398 = true then ((impl_allWithin.f k l1 0 (wrap64 (a0_0 - 1))).bind fun t399 => (some t399)) else (some false))) = some r := h
 clear h
 replace H := Option.bind_eq_some_iff.mp H
 obtain ⟨t398, A30, H⟩ := H
 replace H : (if t398 = true then ((impl_allWithin.f k l1 0 (wrap64 (a0_0 - 1))).bind fun t399 => (some t399)) else (some false)) = some r := H
 have A3 := Aside0.mk A30
 clear A30
 by_cases c4 : t398 = true
 ·subst c4
  have H1 : ((impl_allWithin.f k l1 0 (wrap64 (a0_0 - 1))).bind fun t399 => (some t399)) = some r := by rw [if_pos rfl] at H;exact H
  clear H
  have H := H1
  clear H1
  replace H := Option.bind_eq_some_iff.mp H
  obtain ⟨t399, A50, H⟩ := H
  replace H : (some t399) = some r := H
  have A5 := Aside0.mk A50
  clear A50
  obtain rfl := Option.some.inj H
  go_enter Tryd.func92, Tryd.ntmps92
  go_wp2_with (first | ((with_reducible refine gate_dst (N := 2) rfl ?_);refine box_event ?hg (N := 2) ?hd (cs := #[.int .i64 a0_0, .slice A0_1 l0_1.length c0_1]) (t := 28) ?hr ?_;(case hd => rfl);(case hg => rfl);(case hr => first | (go_simp;done) | (go_simp;rfl));intro gb397 hg w6 hbox hb;have n0_ := Aside0.mk (below_step (by exact bB) hb);have n1_ := Aside0.mk (hbox);have n2_ := Aside0.mk ((by rw [hg];exact (below_size (by exact bB)) : w.heap.size ≤ gb397));have n3_ := Aside0.mk ((by rw [hg];exact (below_size (by exact bB)) : w.heap.size ≤ gb397));clear HB;have HB := n0_;have BK397 := n1_;have GW397 := n2_;have GE397 := n3_;clear n0_ n1_ n2_ n3_;clear hb hbox hg;have hcz7_0 : w6.cell? ⟨gb397, 0, none⟩ = some (.int .i64 a0_0) := (blk_cell BK397.out 0).trans rfl;have hcz7_1 : w6.cell? ⟨gb397, 1, none⟩ = some (.slice A0_1 l0_1.length c0_1) := (blk_cell BK397.out 1).trans rfl;have hfz7_0 := blk_frozen BK397.out 0;have hfz7_1 := blk_frozen BK397.out 1) | ((with_reducible refine gate_callee (f := 44) rfl ?_);refine goesL_ (some 6) rfl rfl Tryd.func44 (by kernel_rfl) rfl #[.agg #[.int .i64 a0_0, .slice A0_1 l0_1.length c0_1]] rfl mM ?_;(with_reducible refine (impl_IsGraph.calls a0_0 _ _ l0_1 true _ ?side1 ?side2 A3.out).mono ?_);(case side1 => exact cP (Kd.C_below HR0_1.out HB.out));(case side2 => exact HC0_1.out);rintro e w8 ⟨rfl, hb⟩;refine ⟨_, rfl, ?_⟩;have n0_ := Aside0.mk (blk_below (g := gb397) (o := .cells #[.int .i64 a0_0, .slice A0_1 l0_1.length c0_1] 28 (0, 0)) (by exact kP BK397.out) hb);have n1_ := Aside0.mk (below_step (by exact bB) hb);clear BK397;clear HB;have BK397 := n0_;have HB := n1_;clear n0_ n1_;(try clear hb);(try clear hb2);(try clear hk);(try clear hi);have hcz9_0 : w8.cell? ⟨gb397, 0, none⟩ = some (.int .i64 a0_0) := (blk_cell BK397.out 0).trans rfl;have hcz9_1 : w8.cell? ⟨gb397, 1, none⟩ = some (.slice A0_1 l0_1.length c0_1) := (blk_cell BK397.out 1).trans rfl;have hfz9_0 := blk_frozen BK397.out 0;have hfz9_1 := blk_frozen BK397.out 1) | (go_at_call 120;(with_reducible refine (impl_allWithin.calls k _ _ l1 0 (wrap64 (a0_0 - 1)) t399 _ ?side1 ?side2 A5.out).mono ?_);(case side1 => exact cP (Kd.C_below HR1.out HB.out));(case side2 => exact HC1.out);rintro e w' ⟨rfl, ⟨nd, rfl⟩⟩))
  go_ret
  exact ⟨by first | rfl | (simp [errW_none, errW_some] <;> rfl) | (simp [*, errW_none, errW_some] <;> rfl), by exact bB⟩
 ·replace c4 := Bool.eq_false_iff.mpr c4
  subst c4
  have H1 : (some false) = some r := by rw [if_neg (show ¬ (false = true) by decide)] at H;exact H
  clear H
  have H := H1
  clear H1
  obtain rfl := Option.some.inj H
  go_enter Tryd.func92, Tryd.ntmps92
  go_wp2_with (first | ((with_reducible refine gate_dst (N := 2) rfl ?_);refine box_event ?hg (N := 2) ?hd (cs := #[.int .i64 a0_0, .slice A0_1 l0_1.length c0_1]) (t := 28) ?hr ?_;(case hd => rfl);(case hg => rfl);(case hr => first | (go_simp;done) | (go_simp;rfl));intro gb397 hg w10 hbox hb;have n0_ := Aside0.mk (below_step (by exact bB) hb);have n1_ := Aside0.mk (hbox);have n2_ := Aside0.mk ((by rw [hg];exact (below_size (by exact bB)) : w.heap.size ≤ gb397));have n3_ := Aside0.mk ((by rw [hg];exact (below_size (by exact bB)) : w.heap.size ≤ gb397));clear HB;have HB := n0_;have BK397 := n1_;have GW397 := n2_;have GE397 := n3_;clear n0_ n1_ n2_ n3_;clear hb hbox hg;have hcz11_0 : w10.cell? ⟨gb397, 0, none⟩ = some (.int .i64 a0_0) := (blk_cell BK397.out 0).trans rfl;have hcz11_1 : w10.cell? ⟨gb397, 1, none⟩ = some (.slice A0_1 l0_1.length c0_1) := (blk_cell BK397.out 1).trans rfl;have hfz11_0 := blk_frozen BK397.out 0;have hfz11_1 := blk_frozen BK397.out 1) | ((with_reducible refine gate_callee (f := 44) rfl ?_);refine goesL_ (some 6) rfl rfl Tryd.func44 (by kernel_rfl) rfl #[.agg #[.int .i64 a0_0, .slice A0_1 l0_1.length c0_1]] rfl mM ?_;(with_reducible refine (impl_IsGraph.calls a0_0 _ _ l0_1 false _ ?side1 ?side2 A3.out).mono ?_);(case side1 => exact cP (Kd.C_below HR0_1.out HB.out));(case side2 => exact HC0_1.out);rintro e w12 ⟨rfl, hb⟩;refine ⟨_, rfl, ?_⟩;have n0_ := Aside0.mk (blk_below (g := gb397) (o := .cells #[.int .i64 a0_0, .slice A0_1 l0_1.length c0_1] 28 (0, 0)) (by exact kP BK397.out) hb);have n1_ := Aside0.mk (below_step (by exact bB) hb);clear BK397;clear HB;have BK397 := n0_;have HB := n1_;clear n0_ n1_;(try clear hb);(try clear hb2);(try clear hk);(try clear hi)))
  go_ret
  exact ⟨by first | rfl | (simp [errW_none, errW_some] <;> rfl) | (simp [*, errW_none, errW_some] <;> rfl), by exact bB⟩


/-! ### impl_increasing: function 93 -/
def impl_increasing.l0 : Nat → List Int → Int → Option (Bool)
 | 0, _, _ => none
 | k + 1, x0, x3 => if x3 < (x0.length : Int) then (if 0 ≤ (wrap64 (x3 - 1)) then (if (wrap64 (x3 - 1)) < (x0.length : Int) then (if 0 ≤ x3 then (if (rd x0 (wrap64 (x3 - 1))) ≥ (rd x0 x3) then (some false) else (impl_increasing.l0 k x0 (wrap64 (x3 + 1)))) else (none)) else (none)) else (none)) else (some true)
def impl_increasing.f (k : Nat) (l0 : List Int) : Option (Bool) := impl_increasing.l0 k l0 1
theorem impl_increasing.mono_l : ∀ k, (∀ y0 y1, LeO (impl_increasing.l0 k y0 y1) (impl_increasing.l0 (k + 1) y0 y1))
 | 0 => fun _ _ r h => by simp [impl_increasing.l0] at h
 | k + 1 => by
  have ih0 := impl_increasing.mono_l k
  ·intro y0 y1
   unfold impl_increasing.l0
   repeat' first
   | (with_reducible exact ih0 _ _)
   | (with_reducible exact LeO.refl _)
   | (with_reducible exact LeO.none _)
   | (with_reducible refine LeO.ite ?_ ?_)
   | (with_reducible refine LeO.bind ?_ (fun _ => ?_))
   | exact ih0 _ _
   | exact LeO.none _
   | refine LeO.ite ?_ ?_
   | refine LeO.bind ?_ (fun _ => ?_)
theorem impl_increasing.mono : ∀ a0 k, LeO (impl_increasing.f k a0) (impl_increasing.f (k + 1) a0) := by
 intro a0 k
 have ih0 := impl_increasing.mono_l k
 unfold impl_increasing.f
 repeat' first
   | (with_reducible exact ih0 _ _)
   | (with_reducible exact LeO.refl _)
   | (with_reducible exact LeO.none _)
   | (with_reducible refine LeO.ite ?_ ?_)
   | (with_reducible refine LeO.bind ?_ (fun _ => ?_))
   | exact ih0 _ _
   | exact LeO.none _
   | refine LeO.ite ?_ ?_
   | refine LeO.bind ?_ (fun _ => ?_)
set_option maxHeartbeats 8000000 in
set_option maxRecDepth 100000 in
theorem impl_increasing.calls (k : Nat) (A0 : Option Addr) (c0 : Nat) (l0 : List Int) (r : Bool) (w : World) (hr0 : Kd.C (Kd.int .i64) w A0 l0.length l0) (hc0 : l0.length ≤ c0) (h : impl_increasing.f k l0 = some r) :
  Calls Tryd.prog 93 #[.slice A0 l0.length c0] w fun e w' => e = .returned (.bool r) ∧ Drawn0 w w' := by
 have HR0 := Aside0.mk hr0
 have HC0 := Aside0.mk hc0
 clear hr0 hc0
 have H : (impl_increasing.l0 k l0 1) = some r := h
 clear h
 have H' := Aside0.mk H
 clear H
 go_enter Tryd.func93, Tryd.ntmps93
 go_wp2
 repeat (go_quiet (fail);try go_wp2)
 go_loopg [3] k (fun kq v3 w' => ∃ (x3_1 : Int), v3 = .int .i64 x3_1 ∧ Aside0 (impl_increasing.l0 kq l0 x3_1 = some r) ∧ Aside0 (kq ≤ k) ∧ Drawn0 w w')
 case atStart => exact ⟨(1), (by first | rfl | (simp;done) | (simp [*];done)), H', ⟨Nat.le_refl _⟩, by repeat (first | exact Drawn0.refl _ | apply Drawn0.step)⟩
 case round =>
  clear H'
  obtain ⟨x3_1, rfl, HA, HK1, ⟨m1, rfl⟩⟩ := hrel
  cases gk with
  | zero => exact absurd HA.out (by simp [impl_increasing.l0])
  | succ k1 =>
   have H := HA.out
   clear HA
   simp only [impl_increasing.l0] at H
   by_cases c2 : x3_1 < (l0.length : Int)
   ·rw [if_pos c2] at H
    have c2b0 : decide (x3_1 < (l0.length : Int)) = true := decide_eq_true c2
    clear c2
    obtain ⟨ji3, hji3⟩ : ∃ j_ : Int, (wrap64 (x3_1 - 1)) = j_ := ⟨_, rfl⟩
    replace H : (if 0 ≤ (ji3) then (if (ji3) < (l0.length : Int) then (if 0 ≤ x3_1 then (if (rd l0 (ji3)) ≥ (rd l0 x3_1) then (some false) else (impl_increasing.l0 k1 l0 (wrap64 (x3_1 + 1)))) else (none)) else (none)) else (none)) = some r := by first | (rw [hji3] at H;exact H) | (simp only [hji3] at H ⊢;exact H)
    have hji3w : (IntKind.i64.wrap (x3_1 - 1)) = ji3 := (i64_w _).trans hji3
    by_cases c4 : 0 ≤ (ji3)
    ·rw [if_pos c4] at H
     have c4b0 : decide (0 ≤ (ji3)) = true := decide_eq_true c4
     clear c4
     by_cases c5 : (ji3) < (l0.length : Int)
     ·rw [if_pos c5] at H
      have c5b0 : decide ((ji3) < (l0.length : Int)) = true := decide_eq_true c5
      clear c5
      by_cases c6 : 0 ≤ x3_1
      ·rw [if_pos c6] at H
       have c6b0 : decide (0 ≤ x3_1) = true := decide_eq_true c6
       clear c6
       by_cases c7 : (rd l0 (ji3)) ≥ (rd l0 x3_1)
       ·rw [if_pos c7] at H
        have c7b0 : decide ((rd l0 x3_1) ≤ (rd l0 (ji3))) = true := decide_eq_true c7
        clear c7
        obtain rfl := Option.some.inj H
        have p400 : 0 ≤ ((ji3) : Int) := oA
        have q400 : (ji3) < (l0.length : Int) := oA
        obtain ⟨ad400, e400, hx400_0⟩ := Kd.at_int HR0.out (ji3) p400 q400
        cases e400
        replace p400 := eq_true p400
        replace q400 := eq_true q400
        have p401 : 0 ≤ (x3_1 : Int) := oA
        have q401 : x3_1 < (l0.length : Int) := oA
        obtain ⟨ad401, e401, hx401_0⟩ := Kd.at_int HR0.out x3_1 p401 q401
        obtain rfl : ad400 = ad401 := (by injection e401)
        replace p401 := eq_true p401
        replace q401 := eq_true q401
        go_wp2
        repeat (go_quiet (fail);try go_wp2)
        go_ret
        exact ⟨by first | rfl | (simp;done) | (simp only [← hji3] <;> (first | rfl | simp)) | (simp [*];done), by repeat (first | exact Drawn0.refl _ | apply Drawn0.step)⟩
       ·rw [if_neg c7] at H
        have c7b0 : decide ((rd l0 x3_1) ≤ (rd l0 (ji3))) = false := decide_eq_false c7
        clear c7
        have H' := Aside0.mk H
        clear H
        have p400 : 0 ≤ ((ji3) : Int) := oA
        have q400 : (ji3) < (l0.length : Int) := oA
        obtain ⟨ad400, e400, hx400_0⟩ := Kd.at_int HR0.out (ji3) p400 q400
        cases e400
        replace p400 := eq_true p400
        replace q400 := eq_true q400
        have p401 : 0 ≤ (x3_1 : Int) := oA
        have q401 : x3_1 < (l0.length : Int) := oA
        obtain ⟨ad401, e401, hx401_0⟩ := Kd.at_int HR0.out x3_1 p401 q401
        obtain rfl : ad400 = ad401 := (by injection e401)
        replace p401 := eq_true p401
        replace q401 := eq_true q401
        go_wp2
        repeat (go_quiet (fail);try go_wp2)
        go_roundg k1
        case measure => have := HK1.out;omega
        case rel => exact ⟨(wrap64 (x3_1 + 1)), (by first | rfl | (simp;done) | (simp [*];done)), H', ⟨by have := HK1.out;omega⟩, by repeat (first | exact Drawn0.refl _ | apply Drawn0.step)⟩
      ·rw [if_neg c6] at H
       exact absurd H (by simp)
     ·rw [if_neg c5] at H
      exact absurd H (by simp)
    ·rw [if_neg c4] at H
     exact absurd H (by simp)
   ·rw [if_neg c2] at H
    have c2b0 : decide (x3_1 < (l0.length : Int)) = false := decide_eq_false c2
    clear c2
    obtain rfl := Option.some.inj H
    go_wp2
    repeat (go_quiet (fail);try go_wp2)
    go_ret
    exact ⟨by first | rfl | (simp;done) | (simp [*];done), by repeat (first | exact Drawn0.refl _ | apply Drawn0.step)⟩


/-! ### impl_isSet: function 52 -/
def impl_isSet.f (k : Nat) (a0_0 : Int) (l0_1 : List (S92)) (l1 : List Int) : Option (Bool) := (impl_hasNodes.f k a0_0 l0_1 l1).bind fun t403 => (if t403 = true then ((impl_increasing.f k l1).bind fun t404 => (some t404)) else (some false))
theorem impl_isSet.mono : ∀ a0 a1 a2 k, LeO (impl_isSet.f k a0 a1 a2) (impl_isSet.f (k + 1) a0 a1 a2) := by
 intro a0 a1 a2 k
 unfold impl_isSet.f
 repeat' first
   | (with_reducible exact impl_hasNodes.mono _ _ _ _)
   | (with_reducible exact impl_increasing.mono _ _)
   | (with_reducible exact LeO.refl _)
   | (with_reducible exact LeO.none _)
   | (with_reducible refine LeO.ite ?_ ?_)
   | (with_reducible refine LeO.bind ?_ (fun _ => ?_))
   | exact impl_hasNodes.mono _ _ _ _
   | exact impl_increasing.mono _ _
   | exact LeO.none _
   | refine LeO.ite ?_ ?_
   | refine LeO.bind ?_ (fun _ => ?_)
set_option maxHeartbeats 8000000 in
set_option maxRecDepth 100000 in
theorem impl_isSet.calls (k : Nat) (a0_0 : Int) (A0_1 : Option Addr) (c0_1 : Nat) (l0_1 : List (S92)) (A1 : Option Addr) (c1 : Nat) (l1 : List Int) (r : Bool) (w : World) (hr0_1 : Kd.C k92 w A0_1 l0_1.length l0_1) (hc0_1 : l0_1.length ≤ c0_1) (hr1 : Kd.C (Kd.int .i64) w A1 l1.length l1) (hc1 : l1.length ≤ c1) (h : impl_isSet.f k a0_0 l0_1 l1 = some r) :
  Calls Tryd.prog 52 #[.agg #[.int .i64 a0_0, .slice A0_1 l0_1.length c0_1], .slice A1 l1.length c1] w fun e w' => e = .returned (.bool r) ∧ Below w.heap.size w w' := by
 have hu28 := Tryd.underlying28
 have HR0_1 := Aside0.mk hr0_1
 have HC0_1 := Aside0.mk hc0_1
 clear hr0_1 hc0_1
 have HR1 := Aside0.mk hr1
 have HC1 := Aside0.mk hc1
 clear hr1 hc1
 have HB := Aside0.mk (Below.refl w.heap.size w)
 have H : ((impl_hasNodes.f k a0_0 l0_1 l1).bind fun t403 => (if t403 = true then ((impl_increasing.f k l1).bind fun t404 => (some t404)) else (some false))) = some r := h
 clear h
 replace H := Option.bind_eq_some_iff.mp H
 obtain ⟨t403, A30, H⟩ := H
 replace H : (if t403 = true then ((impl_increasing.f k l1).bind fun t404 => (some t404)) else (some false)) = some r := H
 have A3 := Aside0.mk A30
 clear A30
 by_cases c4 : t403 = true
 ·subst c4
  have H1 : ((impl_increasing.f k l1).bind fun t404 => (some t404)) = some r := by rw [if_pos rfl] at H;exact H
  clear H
  have H := H1
  clear H1
  replace H := Option.bind_eq_some_iff.mp H
  obtain ⟨t404, A50, H⟩ := H
  replace H : (some t404) = some r := H
  have A5 := Aside0.mk A50
  clear A50
  obtain rfl := Option.some.inj H
  go_enter Tryd.func52, Tryd.ntmps52
  go_wp2_with (first | ((with_reducible refine gate_dst (N := 2) rfl ?_);refine box_event ?hg (N := 2) ?hd (cs := #[.int .i64 a0_0, .slice A0_1 l0_1.length c0_1]) (t := 28) ?hr ?_;(case hd => rfl);(case hg => rfl);(case hr => first | (go_simp;done) | (go_simp;rfl));intro gb402 hg w6 hbox hb;have n0_ := Aside0.mk (below_step (by exact bB) hb);have n1_ := Aside0.mk (hbox);have n2_ := Aside0.mk ((by rw [hg];exact (below_size (by exact bB)) : w.heap.size ≤ gb402));have n3_ := Aside0.mk ((by rw [hg];exact (below_size (by exact bB)) : w.heap.size ≤ gb402));clear HB;have HB := n0_;have BK402 := n1_;have GW402 := n2_;have GE402 := n3_;clear n0_ n1_ n2_ n3_;clear hb hbox hg;have hcz7_0 : w6.cell? ⟨gb402, 0, none⟩ = some (.int .i64 a0_0) := (blk_cell BK402.out 0).trans rfl;have hcz7_1 : w6.cell? ⟨gb402, 1, none⟩ = some (.slice A0_1 l0_1.length c0_1) := (blk_cell BK402.out 1).trans rfl;have hfz7_0 := blk_frozen BK402.out 0;have hfz7_1 := blk_frozen BK402.out 1) | ((with_reducible refine gate_callee (f := 92) rfl ?_);refine goesL_ (some 7) rfl rfl Tryd.func92 (by kernel_rfl) rfl #[.agg #[.int .i64 a0_0, .slice A0_1 l0_1.length c0_1], .slice A1 l1.length c1] rfl mM ?_;(with_reducible refine (impl_hasNodes.calls k a0_0 _ _ l0_1 _ _ l1 true _ ?side1 ?side2 ?side3 ?side4 A3.out).mono ?_);(case side1 => exact cP (Kd.C_below HR0_1.out HB.out));(case side2 => exact HC0_1.out);(case side3 => exact cP (Kd.C_below HR1.out HB.out));(case side4 => exact HC1.out);rintro e w8 ⟨rfl, hb⟩;refine ⟨_, rfl, ?_⟩;have n0_ := Aside0.mk (blk_below (g := gb402) (o := .cells #[.int .i64 a0_0, .slice A0_1 l0_1.length c0_1] 28 (0, 0)) (by exact kP BK402.out) hb);have n1_ := Aside0.mk (below_step (by exact bB) hb);clear BK402;clear HB;have BK402 := n0_;have HB := n1_;clear n0_ n1_;(try clear hb);(try clear hb2);(try clear hk);(try clear hi)) | (go_at_call 93;(with_reducible refine (impl_increasing.calls k _ _ l1 t404 _ ?side1 ?side2 A5.out).mono ?_);(case side1 => exact cP (Kd.C_below HR1.out HB.out));(case side2 => exact HC1.out);rintro e w' ⟨rfl, ⟨nd, rfl⟩⟩))
  go_ret
  exact ⟨by first | rfl | (simp [errW_none, errW_some] <;> rfl) | (simp [*, errW_none, errW_some] <;> rfl), by exact bB⟩
 ·replace c4 := Bool.eq_false_iff.mpr c4
  subst c4
  have H1 : (some false) = some r := by rw [if_neg (show ¬ (false = true) by decide)] at H;exact H
  clear H
  have H := H1
  clear H1
  obtain rfl := Option.some.inj H
  go_enter Tryd.func52, Tryd.ntmps52
  go_wp2_with (first | ((with_reducible refine gate_dst (N := 2) rfl ?_);refine box_event ?hg (N := 2) ?hd (cs := #[.int .i64 a0_0, .slice A0_1 l0_1.length c0_1]) (t := 28) ?hr ?_;(case hd => rfl);(case hg => rfl);(case hr => first | (go_simp;done) | (go_simp;rfl));intro gb402 hg w9 hbox hb;have n0_ := Aside0.mk (below_step (by exact bB) hb);have n1_ := Aside0.mk (hbox);have n2_ := Aside0.mk ((by rw [hg];exact (below_size (by exact bB)) : w.heap.size ≤ gb402));have n3_ := Aside0.mk ((by rw [hg];exact (below_size (by exact bB)) : w.heap.size ≤ gb402));clear HB;have HB := n0_;have BK402 := n1_;have GW402 := n2_;have GE402 := n3_;clear n0_ n1_ n2_ n3_;clear hb hbox hg;have hcz10_0 : w9.cell? ⟨gb402, 0, none⟩ = some (.int .i64 a0_0) := (blk_cell BK402.out 0).trans rfl;have hcz10_1 : w9.cell? ⟨gb402, 1, none⟩ = some (.slice A0_1 l0_1.length c0_1) := (blk_cell BK402.out 1).trans rfl;have hfz10_0 := blk_frozen BK402.out 0;have hfz10_1 := blk_frozen BK402.out 1) | ((with_reducible refine gate_callee (f := 92) rfl ?_);refine goesL_ (some 7) rfl rfl Tryd.func92 (by kernel_rfl) rfl #[.agg #[.int .i64 a0_0, .slice A0_1 l0_1.length c0_1], .slice A1 l1.length c1] rfl mM ?_;(with_reducible refine (impl_hasNodes.calls k a0_0 _ _ l0_1 _ _ l1 false _ ?side1 ?side2 ?side3 ?side4 A3.out).mono ?_);(case side1 => exact cP (Kd.C_below HR0_1.out HB.out));(case side2 => exact HC0_1.out);(case side3 => exact cP (Kd.C_below HR1.out HB.out));(case side4 => exact HC1.out);rintro e w11 ⟨rfl, hb⟩;refine ⟨_, rfl, ?_⟩;have n0_ := Aside0.mk (blk_below (g := gb402) (o := .cells #[.int .i64 a0_0, .slice A0_1 l0_1.length c0_1] 28 (0, 0)) (by exact kP BK402.out) hb);have n1_ := Aside0.mk (below_step (by exact bB) hb);clear BK402;clear HB;have BK402 := n0_;have HB := n1_;clear n0_ n1_;(try clear hb);(try clear hb2);(try clear hk);(try clear hi)))
  go_ret
  exact ⟨by first | rfl | (simp [errW_none, errW_some] <;> rfl) | (simp [*, errW_none, errW_some] <;> rfl), by exact bB⟩


/-! ### impl_isEternalFamilyC1: function 98 -/
def impl_isEternalFamilyC1.f (k : Nat) (l0 : List Int) (a1_0 : Int) (l1_1 : List (S92)) (l2_0 : List (List Int)) : Option (Bool) := (impl_isSet.f k a1_0 l1_1 l0).bind fun t420 => (if t420 = true then (if 0 < (l2_0.length : Int) then (some ((l0.length : Int) != ((rd_L2 l2_0 0).length : Int))) else (none)) else (some true))
theorem impl_isEternalFamilyC1.mono : ∀ a0 a1 a2 a3 k, LeO (impl_isEternalFamilyC1.f k a0 a1 a2 a3) (impl_isEternalFamilyC1.f (k + 1) a0 a1 a2 a3) := by
 intro a0 a1 a2 a3 k
 unfold impl_isEternalFamilyC1.f
 repeat' first
   | (with_reducible exact impl_isSet.mono _ _ _ _)
   | (with_reducible exact LeO.refl _)
   | (with_reducible exact LeO.none _)
   | (with_reducible refine LeO.ite ?_ ?_)
   | (with_reducible refine LeO.bind ?_ (fun _ => ?_))
   | exact impl_isSet.mono _ _ _ _
   | exact LeO.none _
   | refine LeO.ite ?_ ?_
   | refine LeO.bind ?_ (fun _ => ?_)
set_option maxHeartbeats 8000000 in
set_option maxRecDepth 100000 in
theorem impl_isEternalFamilyC1.calls (gb418 gb419 : Nat) (k : Nat) (A0 : Option Addr) (c0 : Nat) (l0 : List Int) (a1_0 : Int) (A1_1 : Option Addr) (c1_1 : Nat) (l1_1 : List (S92)) (A2_0 : Option Addr) (c2_0 : Nat) (l2_0 : List (List Int)) (r : Bool) (w : World) (hr0 : Kd.C (Kd.int .i64) w A0 l0.length l0) (hc0 : l0.length ≤ c0) (hr1_1 : Kd.C k92 w A1_1 l1_1.length l1_1) (hc1_1 : l1_1.length ≤ c1_1) (hr2_0 : Kd.C (Kd.slice 3 (Kd.int .i64)) w A2_0 l2_0.length l2_0) (hc2_0 : l2_0.length ≤ c2_0) (hb418 : w.heap[gb418]? = some (.cells #[.int .i64 a1_0, .slice A1_1 l1_1.length c1_1] 28 (0, 0))) (hb419 : w.heap[gb419]? = some (.cells #[.slice A2_0 l2_0.length c2_0] 38 (0, 0))) (h : impl_isEternalFamilyC1.f k l0 a1_0 l1_1 l2_0 = some r) :
  Calls Tryd.prog 98 #[.slice A0 l0.length c0, .pointer (some ⟨gb418, 0, none⟩), .pointer (some ⟨gb419, 0, none⟩)] w fun e w' => e = .returned (.bool r) ∧ Below w.heap.size w w' := by
 have hu28 := Tryd.underlying28
 have hu7 := Tryd.underlying38
 have HR0 := Aside0.mk hr0
 have HC0 := Aside0.mk hc0
 clear hr0 hc0
 have HR1_1 := Aside0.mk hr1_1
 have HC1_1 := Aside0.mk hc1_1
 clear hr1_1 hc1_1
 have HR2_0 := Aside0.mk hr2_0
 have HC2_0 := Aside0.mk hc2_0
 clear hr2_0 hc2_0
 have HB := Aside0.mk (Below.refl w.heap.size w)
 have BK418 := Aside0.mk hb418
 have hczb418_0 : w.cell? ⟨gb418, 0, none⟩ = some (.int .i64 a1_0) := (blk_cell hb418 0).trans rfl
 have hfzb418_0 := blk_frozen hb418 0
 have hczb418_1 : w.cell? ⟨gb418, 1, none⟩ = some (.slice A1_1 l1_1.length c1_1) := (blk_cell hb418 1).trans rfl
 have hfzb418_1 := blk_frozen hb418 1
 clear hb418
 have BK419 := Aside0.mk hb419
 have hczb419_0 : w.cell? ⟨gb419, 0, none⟩ = some (.slice A2_0 l2_0.length c2_0) := (blk_cell hb419 0).trans rfl
 have hfzb419_0 := blk_frozen hb419 0
 clear hb419
 have H : ((impl_isSet.f k a1_0 l1_1 l0).bind fun t420 => (if t420 = true then (if 0 < (l2_0.length : Int) then (some ((l0.length : Int) != ((rd_L2 l2_0 0).length : Int))) else (none)) else (some true))) = some r := h
 clear h
 replace H := Option.bind_eq_some_iff.mp H
 obtain ⟨t420, A40, H⟩ := H
 replace H : (if t420 = true then (if 0 < (l2_0.length : Int) then (some ((l0.length : Int) != ((rd_L2 l2_0 0).length : Int))) else (none)) else (some true)) = some r := H
 have A4 := Aside0.mk A40
 clear A40
 by_cases c5 : t420 = true
 ·subst c5
  have H1 : (if 0 < (l2_0.length : Int) then (some ((l0.length : Int) != ((rd_L2 l2_0 0).length : Int))) else (none)) = some r := by rw [if_pos rfl] at H;exact H
  clear H
  have H := H1
  clear H1
  by_cases c6 : 0 < (l2_0.length : Int)
  ·rw [if_pos c6] at H
   have c6b0 : decide (0 < (l2_0.length : Int)) = true := decide_eq_true c6
   have c6b1 : decide (0 < l2_0.length) = true := decide_eq_true (by omega)
   clear c6
   obtain rfl := Option.some.inj H
   go_enter Tryd.func98, Tryd.ntmps98
   go_wp2_with (first | ((with_reducible refine gate_callee (f := 52) rfl ?_);refine goesL_ (some 7) rfl rfl Tryd.func52 (by kernel_rfl) rfl #[.agg #[.int .i64 a1_0, .slice A1_1 l1_1.length c1_1], .slice A0 l0.length c0] rfl mM ?_;(with_reducible refine (impl_isSet.calls k a1_0 _ _ l1_1 _ _ l0 true _ ?side1 ?side2 ?side3 ?side4 A4.out).mono ?_);(case side1 => exact cP (Kd.C_below HR1_1.out HB.out));(case side2 => exact HC1_1.out);(case side3 => exact cP (Kd.C_below HR0.out HB.out));(case side4 => exact HC0.out);rintro e w11 ⟨rfl, hb⟩;refine ⟨_, rfl, ?_⟩;have n0_ := Aside0.mk (blk_below (g := gb418) (o := .cells #[.int .i64 a1_0, .slice A1_1 l1_1.length c1_1] 28 (0, 0)) (by exact kP BK418.out) hb);have n1_ := Aside0.mk (blk_below (g := gb419) (o := .cells #[.slice A2_0 l2_0.length c2_0] 38 (0, 0)) (by exact kP BK419.out) hb);have n2_ := Aside0.mk (below_step (by exact bB) hb);clear BK418;clear BK419;clear HB;have BK418 := n0_;have BK419 := n1_;have HB := n2_;clear n0_ n1_ n2_;(try clear hb);(try clear hb2);(try clear hk);(try clear hi);have hcz12_0 : w11.cell? ⟨gb419, 0, none⟩ = some (.slice A2_0 l2_0.length c2_0) := (blk_cell BK419.out 0).trans rfl;have hfz12_0 := blk_frozen BK419.out 0;have p421 : 0 ≤ (0 : Int) := (by omega);have q421 : 0 < (l2_0.length : Int) := oA;obtain ⟨ad421, A421_0, c421_0, e421, hx421_0, hl421_0, hi421_0⟩ := at_L2 HR2_0.out 0 p421 q421;cases e421;have qi421 : (0 < l2_0.length) = True := eq_true (by omega);(try rw [show ((0 : Int)).toNat = 0 from rfl] at hx421_0);(try rw [Addr.add_zero'] at hx421_0);replace hx421_0 := (HB.out.cell (World.block_lt_of_cell? w _ hx421_0)).trans hx421_0;have HR421_0 := Aside0.mk hi421_0;have HC421_0 := Aside0.mk hl421_0;clear hi421_0 hl421_0;replace p421 := eq_true p421;replace q421 := eq_true q421))
   go_ret
   exact ⟨by first | rfl | (simp [errW_none, errW_some] <;> rfl) | (simp [*, errW_none, errW_some] <;> rfl), by exact bB⟩
  ·rw [if_neg c6] at H
   exact absurd H (by simp)
 ·replace c5 := Bool.eq_false_iff.mpr c5
  subst c5
  have H1 : (some true) = some r := by rw [if_neg (show ¬ (false = true) by decide)] at H;exact H
  clear H
  have H := H1
  clear H1
  obtain rfl := Option.some.inj H
  go_enter Tryd.func98, Tryd.ntmps98
  go_wp2_with (first | ((with_reducible refine gate_callee (f := 52) rfl ?_);refine goesL_ (some 7) rfl rfl Tryd.func52 (by kernel_rfl) rfl #[.agg #[.int .i64 a1_0, .slice A1_1 l1_1.length c1_1], .slice A0 l0.length c0] rfl mM ?_;(with_reducible refine (impl_isSet.calls k a1_0 _ _ l1_1 _ _ l0 false _ ?side1 ?side2 ?side3 ?side4 A4.out).mono ?_);(case side1 => exact cP (Kd.C_below HR1_1.out HB.out));(case side2 => exact HC1_1.out);(case side3 => exact cP (Kd.C_below HR0.out HB.out));(case side4 => exact HC0.out);rintro e w17 ⟨rfl, hb⟩;refine ⟨_, rfl, ?_⟩;have n0_ := Aside0.mk (blk_below (g := gb418) (o := .cells #[.int .i64 a1_0, .slice A1_1 l1_1.length c1_1] 28 (0, 0)) (by exact kP BK418.out) hb);have n1_ := Aside0.mk (blk_below (g := gb419) (o := .cells #[.slice A2_0 l2_0.length c2_0] 38 (0, 0)) (by exact kP BK419.out) hb);have n2_ := Aside0.mk (below_step (by exact bB) hb);clear BK418;clear BK419;clear HB;have BK418 := n0_;have BK419 := n1_;have HB := n2_;clear n0_ n1_ n2_;(try clear hb);(try clear hb2);(try clear hk);(try clear hi)))
  go_ret
  exact ⟨by first | rfl | (simp [errW_none, errW_some] <;> rfl) | (simp [*, errW_none, errW_some] <;> rfl), by exact bB⟩


/-! ### impl_valBad: by hand -/
/-! #### slices.IndexFunc and ContainsFunc at [][]int, a predicate that may lay blocks, told up to the first that is wanted: by hand -/
def idxR (q : List Int → Option Bool) : List (List Int) → Int → Option Int
 | [], _ => some (-1)
 | x :: l, i => (q x).bind fun b => if b = true then some i else idxR q l (i + 1)
theorem idxR_mono {q q' : List Int → Option Bool} (h : ∀ x, LeO (q x) (q' x)) : ∀ (l : List (List Int)) (i : Int), LeO (idxR q l i) (idxR q' l i)
 | [], _ => LeO.refl _
 | x :: l, i => by
  unfold idxR
  refine LeO.bind (h x) (fun b => ?_)
  refine LeO.ite (LeO.refl _) (idxR_mono h l _)
theorem idxR_use {q : List Int → Option Bool} {l : List (List Int)} {kk : Nat} {r : Int} (hi : kk < l.length) (h : idxR q (l.drop kk) (kk : Int) = some r) :
  ∃ b, q (rd_L2 l (kk : Int)) = some b ∧ ((b = true ∧ r = (kk : Int)) ∨ (b = false ∧ idxR q (l.drop (kk + 1)) ((kk + 1 : Nat) : Int) = some r)) := by
 have e : rd_L2 l (kk : Int) = l[kk] := by simp [rd_L2, hi]
 rw [List.drop_eq_getElem_cons hi] at h
 unfold idxR at h
 obtain ⟨b, hb, h⟩ := Option.bind_eq_some_iff.1 h
 refine ⟨b, by rw [e];exact hb, ?_⟩
 cases b with
 | true => rw [if_pos rfl] at h;exact .inl ⟨rfl, (Option.some.inj h).symm⟩
 | false => rw [if_neg (by decide)] at h;exact .inr ⟨rfl, by rw [← h];rfl⟩
set_option maxHeartbeats 1600000 in
set_option maxRecDepth 100000 in
theorem indexRows_calls (g : Nat) (lb : Array Value) (eg : ∀ args w, (callFunc g args).run Tryd.prog w = .ok (.enter g args) w) (q : List Int → Option Bool) (A : Option Addr) (c : Nat) (l : List (List Int)) (w : World) (hr : Kd.C (Kd.slice 3 (Kd.int .i64)) w A l.length l) (r : Int) (h : idxR q l 0 = some r)
  (hp : ∀ x A' c' b W, q x = some b → Below w.heap.size w W → Kd.C (Kd.int .i64) W A' x.length x → x.length ≤ c' → Calls Tryd.prog g (#[.slice A' x.length c'] ++ lb) W fun e w' => e = .returned (.bool b) ∧ Below W.heap.size W w') :
  Calls Tryd.prog 125 #[.slice A l.length c, .func (.func g) #[] lb] w fun e w' => e = .returned (.int .i64 r) ∧ Below w.heap.size w w' := by
 have HR := Aside0.mk hr
 have HP := Aside0.mk hp
 have hL := hr.2.1
 have HI := Aside0.mk (show idxR q (l.drop 0) ((0 : Nat) : Int) = some r from h)
 clear hr hp h
 go_enter Tryd.func125, Tryd.ntmps125
 go_wp2
 go_loopg [5, 8] l.length (fun gg _ s8 wr => ∃ kk : Nat, kk ≤ l.length ∧ l.length - kk ≤ gg ∧ s8 = .int .i64 (kk : Int) ∧ Aside0 (Below w.heap.size w wr) ∧ Aside0 (idxR q (l.drop kk) (kk : Int) = some r))
 case atStart => exact ⟨0, Nat.zero_le _, by omega, rfl, ⟨Below.refl _ _⟩, HI⟩
 case round =>
  clear HI
  obtain ⟨kk, hkk, hg, rfl, HB, NY⟩ := hrel
  by_cases hlt : kk < l.length
  ·have hltz : (kk : Int) < (l.length : Int) := by omega
   have hk0 : (0 : Int) ≤ (kk : Int) := by omega
   obtain ⟨ad, A', c', rfl, hcell, hl', hi'⟩ := at_L2 (Kd.C_below HR.out HB.out) (kk : Int) hk0 hltz
   rw [Int.toNat_natCast] at hcell
   obtain ⟨b, hq, hcs⟩ := idxR_use hlt NY.out
   have hcall := HP.out (rd_L2 l (kk : Int)) A' c' b wr hq HB.out hi' hl'
   clear hq NY hl' hi'
   have HC := Aside0.mk hcs
   clear hcs
   generalize hx : rd_L2 l (kk : Int) = x at hcell hcall
   clear hx
   cases b with
   | true =>
    obtain rfl : r = (kk : Int) := by rcases HC.out with h | h;exact h.2;exact absurd h.1 (by decide)
    clear HC
    go_wp2_with (go_at_fn g;refine hcall.mono ?_;rintro e w' ⟨rfl, hb⟩)
    go_ret
    exact ⟨rfl, below_step HB.out hb⟩
   | false =>
    have NY := Aside0.mk (show idxR q (l.drop (kk + 1)) ((kk + 1 : Nat) : Int) = some r by rcases HC.out with h | h;exact absurd h.1 (by decide);exact h.2)
    clear HC
    go_wp2_with (go_at_fn g;refine hcall.mono ?_;rintro e w' ⟨rfl, hb⟩)
    go_roundg (l.length - (kk + 1))
    case measure => omega
    case rel => exact ⟨kk + 1, by omega, by omega, by first | rfl | go_num, ⟨below_step HB.out hb⟩, NY⟩
  ·have hltz : ¬ (kk : Int) < (l.length : Int) := by omega
   obtain rfl : kk = l.length := by omega
   obtain rfl : r = -1 := by have h := NY.out;rw [List.drop_length] at h;exact (Option.some.inj h).symm
   go_wp2
   go_ret
   exact ⟨rfl, HB.out⟩
def anyR (q : List Int → Option Bool) (l : List (List Int)) : Option Bool := (idxR q l 0).bind fun j => some (decide (0 ≤ j))
set_option maxHeartbeats 1600000 in
set_option maxRecDepth 100000 in
theorem containsRows_calls (g : Nat) (lb : Array Value) (eg : ∀ args w, (callFunc g args).run Tryd.prog w = .ok (.enter g args) w) (q : List Int → Option Bool) (A : Option Addr) (c : Nat) (l : List (List Int)) (w : World) (hr : Kd.C (Kd.slice 3 (Kd.int .i64)) w A l.length l) (r : Bool) (h : anyR q l = some r)
  (hp : ∀ x A' c' b W, q x = some b → Below w.heap.size w W → Kd.C (Kd.int .i64) W A' x.length x → x.length ≤ c' → Calls Tryd.prog g (#[.slice A' x.length c'] ++ lb) W fun e w' => e = .returned (.bool b) ∧ Below W.heap.size W w') :
  Calls Tryd.prog 97 #[.slice A l.length c, .func (.func g) #[] lb] w fun e w' => e = .returned (.bool r) ∧ Below w.heap.size w w' := by
 unfold anyR at h
 obtain ⟨j, hj, h⟩ := Option.bind_eq_some_iff.1 h
 obtain rfl := Option.some.inj h
 have HC := Aside0.mk (indexRows_calls g lb eg q A c l w hr j hj hp)
 clear h hj hp hr
 go_enter Tryd.func97, Tryd.ntmps97
 go_wp2_with (go_at_call 125;refine HC.out.mono ?_;rintro e w' ⟨rfl, hb⟩)
 go_ret
 exact ⟨by first | rfl | simp, hb⟩

def impl_valBad.f (k : Nat) (n : Int) (es : List S92) (L : List (List Int)) : Option Bool := anyR (fun x => impl_isEternalFamilyC1.f k x n es L) L
theorem impl_valBad.mono : ∀ a0 a1 a2 k, LeO (impl_valBad.f k a0 a1 a2) (impl_valBad.f (k + 1) a0 a1 a2) := by
 intro a0 a1 a2 k
 unfold impl_valBad.f anyR
 exact LeO.bind (idxR_mono (fun x => impl_isEternalFamilyC1.mono _ _ _ _ _) _ _) (fun _ => LeO.refl _)
theorem impl_valBad.calls (gG gF k : Nat) (n : Int) (A0 : Option Addr) (c0 : Nat) (es : List S92) (A1 : Option Addr) (c1 : Nat) (L : List (List Int)) (r : Bool) (w : World) (hr0 : Kd.C k92 w A0 es.length es) (hc0 : es.length ≤ c0) (hr1 : Kd.C (Kd.slice 3 (Kd.int .i64)) w A1 L.length L) (hc1 : L.length ≤ c1) (h : impl_valBad.f k n es L = some r)
  (hG : w.heap[gG]? = some (.cells #[.int .i64 n, .slice A0 es.length c0] 28 (0, 0))) (hF : w.heap[gF]? = some (.cells #[.slice A1 L.length c1] 38 (0, 0))) :
  Calls Tryd.prog 97 #[.slice A1 L.length c1, .func (.func 98) #[] #[.pointer (some ⟨gG, 0, none⟩), .pointer (some ⟨gF, 0, none⟩)]] w fun e w' => e = .returned (.bool r) ∧ Below w.heap.size w w' :=
 containsRows_calls 98 #[.pointer (some ⟨gG, 0, none⟩), .pointer (some ⟨gF, 0, none⟩)] (enters_of Tryd.func98 (by kernel_rfl) rfl) (fun x => impl_isEternalFamilyC1.f k x n es L) A1 c1 L w hr1 r h
  (fun x A' c' b W hq hb hx hxc => impl_isEternalFamilyC1.calls gG gF k A' c' x n A0 c0 es A1 c1 L b W hx hxc (Kd.C_below hr0 hb) hc0 (Kd.C_below hr1 hb) hc1 (blk_below hG hb) (blk_below hF hb) hq)

end Go.Proofs.YthbjajppdomhhaaDoor.QIsEternalFamily
