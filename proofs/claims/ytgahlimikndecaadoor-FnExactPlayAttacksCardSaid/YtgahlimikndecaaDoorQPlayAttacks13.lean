import Derived.Test.YtgahlimikndecaaDoorQPlayAttacks0
import Derived.Test.YtgahlimikndecaaDoorQPlayAttacks1
import Derived.Test.YtgahlimikndecaaDoorQPlayAttacks7
import Derived.Test.YtgahlimikndecaaDoorQPlayAttacks12
namespace Go.Proofs.YtgahlimikndecaaDoor.QPlayAttacks
open Go.RowKit Go.Proofs.YtgahlimikndecaaDoorW.PrintWords Go.Proofs.YtgahlimikndecaaDoorW.PrintLast Go.Proofs.YtgahlimikndecaaDoorW.PrintMore
attribute [local go_sem] max2_int min2_int max_two min_two max_three min_three max_four min_four
set_option linter.unusedVariables false
set_option linter.unusedSimpArgs false
set_option maxRecDepth 100000
set_option maxHeartbeats 8000000
/-! ### laws_FnExactPlayAttacks: function 6 -/
def Mine9 (P : Nat → Prop) (W : World) (base : Nat) (E : List Nat) (k : Nat) : Prop := P k ∧ base ≤ k ∧ k < W.heap.size ∧ ∃ q, q ∈ E ∧ ∃ cells, W.heap[k]? = some (.cells cells q (0, 0))
theorem mine9 {α : Type} {d : Kd α} {e base : Nat} {ok : Nat → Prop} {w : World} {v : Value} {xs : List α} (h : Kd.S d e w base ok v xs) : Kd.S d e w base (Mine9 ok w base (e :: d.E)) v xs := Kd.S_bound h
theorem mine9_block {P : Nat → Prop} {W : World} {base g t : Nat} {E : List Nat} {cells : Array Value} (h : Mine9 P W base E g) (hb : W.heap[g]? = some (.cells cells t (0, 0))) (ht : ¬ t ∈ E) : False := by
 obtain ⟨_, _, _, q, hq, c, hc⟩ := h
 rw [hc] at hb
 simp only [Option.some.injEq, Obj.cells.injEq] at hb
 exact ht (hb.2.1 ▸ hq)
theorem mine9_R {α : Type} {d : Kd α} {e b base : Nat} {ok P : Nat → Prop} {W : World} {E : List Nat} {v : Value} {xs : List α} (h : Kd.R d e W b ok v xs) (hE : ∀ q ∈ e :: d.E, ¬ q ∈ E) : Kd.R d e W b (fun k => ¬ Mine9 P W base E k) v xs :=
 Kd.R_mono (Kd.R_bound h) (fun k hk hM => by obtain ⟨_, _, _, q, hq, c, hc⟩ := hk;exact mine9_block hM hc (hE q hq))
theorem mine9_old {W W1 : World} (hb : Below W.heap.size W W1) : ∃ P9_ : Nat → Prop, ∀ k, P9_ k ↔ W.heap.size ≤ k := ⟨_, fun _ => Iff.rfl⟩
mutual
def laws_FnExactPlayAttacks.j0 : Nat → List Int → List Int → Bool → List (List Int) → Bool → List Int → List Int → List (List Int) → Bool → Bool → Int → List (S78) → Int → List (S78) → Option (Bool)
 | 0, _, _, _, _, _, _, _, _, _, _, _, _, _, _ => none
 | k + 1, x1, x2, x3, x10, x11, x13, x14, x15, x16, x66, x496000, x496001, x516000, x516001 => if x66 = true then (some false) else ((laws_toGraph.f k x496000 x496001).bind fun bt527 => ((laws_eqGraph.f k x516000 x516001 bt527.1 bt527.2).bind fun t531 => (if t531 = true then ((laws_toIntS.f k x1).bind fun t532 => ((laws_eqIntS.f k x13 t532).bind fun t535 => (if t535 = true then ((laws_toIntS.f k x2).bind fun t536 => ((laws_eqIntS.f k x14 t536).bind fun t539 => (if t539 = true then ((laws_markGraph.f x516000 x516001 1).bind fun bt540 => ((laws_markIntS.f k x13 bt540.1).bind fun bt542 => ((laws_markIntS.f k x14 bt542.1).bind fun bt544 => (if bt544.1 < 0 then (laws_FnExactPlayAttacks.j1 k x1 x2 x3 x10 x11 x15 true x496000 x496001) else ((laws_eqIntSS.f k x15 x10).bind fun t546 => (if t546 = true then (laws_FnExactPlayAttacks.j1 k x1 x2 x3 x10 x11 x15 (x16 != x11) x496000 x496001) else (laws_FnExactPlayAttacks.j1 k x1 x2 x3 x10 x11 x15 true x496000 x496001))))))) else (some false)))) else (some false)))) else (some false))))
def laws_FnExactPlayAttacks.j1 : Nat → List Int → List Int → Bool → List (List Int) → Bool → List (List Int) → Bool → Int → List (S78) → Option (Bool)
 | 0, _, _, _, _, _, _, _, _, _ => none
 | k + 1, x1, x2, x3, x10, x11, x15, x103, x496000, x496001 => if x103 = true then (some false) else ((laws_markIntSS.f k x15 1).bind fun bt547 => ((laws_heldIntSS.f k bt547.2 1).bind fun t549 => (if t549 < 0 then (some false) else (if t549 = bt547.1 then ((laws_toGraph.f k x496000 x496001).bind fun bt550 => ((laws_toIntS.f k x1).bind fun t554 => ((laws_toIntS.f k x2).bind fun t557 => ((impl_PlayAttacks.f k bt550.1 bt550.2 t554 t557 x3).bind fun bt560 => ((laws_eqIntSS.f k bt560.1 x10).bind fun t564 => (if t564 = true then (laws_FnExactPlayAttacks.j2 k bt547.2 bt547.1 (bt560.2 != x11)) else (laws_FnExactPlayAttacks.j2 k bt547.2 bt547.1 true))))))) else (some false)))))
def laws_FnExactPlayAttacks.j2 : Nat → List (List Int) → Int → Bool → Option (Bool)
 | 0, _, _, _ => none
 | k + 1, x15, x18, x134 => if x134 = true then (some false) else ((laws_heldIntSS.f k x15 1).bind fun t565 => (if t565 < 0 then (some false) else (if t565 = x18 then (some true) else (some false))))
end
def laws_FnExactPlayAttacks.f (k : Nat) (a0_0 : Int) (l0_1 : List (S78)) (l1 : List Int) (l2 : List Int) (a3 : Bool) : Option (Bool) := if (l1.length : Int) > 1048576 then (some true) else (if (l2.length : Int) > 1048576 then (some true) else ((laws_szGraph.f a0_0 l0_1 1048576).bind fun t496 => (if t496 < 0 then (some true) else ((laws_toGraph.f k a0_0 l0_1).bind fun bt497 => ((laws_toIntS.f k l1).bind fun t501 => ((laws_toIntS.f k l2).bind fun t504 => ((spec_PlayAttacks.f k bt497.1 bt497.2 t501 t504 a3).bind fun bt507 => ((laws_toGraph.f k a0_0 l0_1).bind fun bt511 => ((laws_toIntS.f k l1).bind fun t516 => ((laws_toIntS.f k l2).bind fun t519 => ((impl_PlayAttacks.f k bt511.1 bt511.2 t516 t519 a3).bind fun bt522 => ((laws_eqIntSS.f k bt522.1 bt507.1).bind fun t526 => (if t526 = true then (laws_FnExactPlayAttacks.j0 k l1 l2 a3 bt507.1 bt507.2 t516 t519 bt522.1 bt522.2 (bt522.2 != bt507.2) a0_0 l0_1 bt511.1 bt511.2) else (laws_FnExactPlayAttacks.j0 k l1 l2 a3 bt507.1 bt507.2 t516 t519 bt522.1 bt522.2 true a0_0 l0_1 bt511.1 bt511.2))))))))))))))
theorem laws_FnExactPlayAttacks.mono_l : ∀ k, (∀ y0 y1 y2 y3 y4 y5 y6 y7 y8 y9 y10 y11 y12 y13, LeO (laws_FnExactPlayAttacks.j0 k y0 y1 y2 y3 y4 y5 y6 y7 y8 y9 y10 y11 y12 y13) (laws_FnExactPlayAttacks.j0 (k + 1) y0 y1 y2 y3 y4 y5 y6 y7 y8 y9 y10 y11 y12 y13)) ∧ (∀ y0 y1 y2 y3 y4 y5 y6 y7 y8, LeO (laws_FnExactPlayAttacks.j1 k y0 y1 y2 y3 y4 y5 y6 y7 y8) (laws_FnExactPlayAttacks.j1 (k + 1) y0 y1 y2 y3 y4 y5 y6 y7 y8)) ∧ (∀ y0 y1 y2, LeO (laws_FnExactPlayAttacks.j2 k y0 y1 y2) (laws_FnExactPlayAttacks.j2 (k + 1) y0 y1 y2))
 | 0 => ⟨fun _ _ _ _ _ _ _ _ _ _ _ _ _ _ r h => by simp [laws_FnExactPlayAttacks.j0] at h, fun _ _ _ _ _ _ _ _ _ r h => by simp [laws_FnExactPlayAttacks.j1] at h, fun _ _ _ r h => by simp [laws_FnExactPlayAttacks.j2] at h⟩
 | k + 1 => by
  obtain ⟨ih0, ih1, ih2⟩ := laws_FnExactPlayAttacks.mono_l k
  refine ⟨?_, ?_, ?_⟩
  ·intro y0 y1 y2 y3 y4 y5 y6 y7 y8 y9 y10 y11 y12 y13
   unfold laws_FnExactPlayAttacks.j0
   have q0 := impl_PlayAttacks.mono
   have q1 := laws_eqGraph.mono
   have q2 := laws_eqIntS.mono
   have q3 := laws_eqIntSS.mono
   have q4 := laws_heldIntSS.mono
   have q5 := laws_markIntS.mono
   have q6 := laws_markIntSS.mono
   have q7 := laws_toGraph.mono
   have q8 := laws_toIntS.mono
   have q9 := spec_PlayAttacks.mono
   exact lM
  ·intro y0 y1 y2 y3 y4 y5 y6 y7 y8
   unfold laws_FnExactPlayAttacks.j1
   have q0 := impl_PlayAttacks.mono
   have q1 := laws_eqGraph.mono
   have q2 := laws_eqIntS.mono
   have q3 := laws_eqIntSS.mono
   have q4 := laws_heldIntSS.mono
   have q5 := laws_markIntS.mono
   have q6 := laws_markIntSS.mono
   have q7 := laws_toGraph.mono
   have q8 := laws_toIntS.mono
   have q9 := spec_PlayAttacks.mono
   exact lM
  ·intro y0 y1 y2
   unfold laws_FnExactPlayAttacks.j2
   have q0 := impl_PlayAttacks.mono
   have q1 := laws_eqGraph.mono
   have q2 := laws_eqIntS.mono
   have q3 := laws_eqIntSS.mono
   have q4 := laws_heldIntSS.mono
   have q5 := laws_markIntS.mono
   have q6 := laws_markIntSS.mono
   have q7 := laws_toGraph.mono
   have q8 := laws_toIntS.mono
   have q9 := spec_PlayAttacks.mono
   exact lM
theorem laws_FnExactPlayAttacks.mono : ∀ a0 a1 a2 a3 a4 k, LeO (laws_FnExactPlayAttacks.f k a0 a1 a2 a3 a4) (laws_FnExactPlayAttacks.f (k + 1) a0 a1 a2 a3 a4) := by
 intro a0 a1 a2 a3 a4 k
 obtain ⟨ih0, ih1, ih2⟩ := laws_FnExactPlayAttacks.mono_l k
 unfold laws_FnExactPlayAttacks.f
 have q0 := impl_PlayAttacks.mono
 have q1 := laws_eqGraph.mono
 have q2 := laws_eqIntS.mono
 have q3 := laws_eqIntSS.mono
 have q4 := laws_heldIntSS.mono
 have q5 := laws_markIntS.mono
 have q6 := laws_markIntSS.mono
 have q7 := laws_toGraph.mono
 have q8 := laws_toIntS.mono
 have q9 := spec_PlayAttacks.mono
 exact lM
theorem laws_FnExactPlayAttacks.calls (k : Nat) (a0_0 : Int) (A0_1 : Option Addr) (c0_1 : Nat) (l0_1 : List (S78)) (A1 : Option Addr) (c1 : Nat) (l1 : List Int) (A2 : Option Addr) (c2 : Nat) (l2 : List Int) (a3 : Bool) (r : Bool) (w : World) (hT : TabG w) (hr0_1 : Kd.C k78 w A0_1 l0_1.length l0_1) (hc0_1 : l0_1.length ≤ c0_1) (hr1 : Kd.C (Kd.int .i64) w A1 l1.length l1) (hc1 : l1.length ≤ c1) (hr2 : Kd.C (Kd.int .i64) w A2 l2.length l2) (hc2 : l2.length ≤ c2) (h : laws_FnExactPlayAttacks.f k a0_0 l0_1 l1 l2 a3 = some r) :
  Calls Tryd.prog 6 #[.agg #[.int .i64 a0_0, .slice A0_1 l0_1.length c0_1], .slice A1 l1.length c1, .slice A2 l2.length c2, .bool a3] w fun e w' => e = .returned (.bool r) ∧ Below w.heap.size w w' := by
 have hu24 := Tryd.underlying24
 have hu29 := Tryd.underlying29
 have HR0_1 := Aside0.mk hr0_1
 have HC0_1 := Aside0.mk hc0_1
 clear hr0_1 hc0_1
 have HR1 := Aside0.mk hr1
 have HC1 := Aside0.mk hc1
 clear hr1 hc1
 have HR2 := Aside0.mk hr2
 have HC2 := Aside0.mk hc2
 clear hr2 hc2
 have HB := aM (Below.refl w.heap.size w)
 have HT := Aside0.mk hT
 clear hT
 have H : (if (l1.length : Int) > 1048576 then (some true) else (if (l2.length : Int) > 1048576 then (some true) else ((laws_szGraph.f a0_0 l0_1 1048576).bind fun t496 => (if t496 < 0 then (some true) else ((laws_toGraph.f k a0_0 l0_1).bind fun bt497 => ((laws_toIntS.f k l1).bind fun t501 => ((laws_toIntS.f k l2).bind fun t504 => ((spec_PlayAttacks.f k bt497.1 bt497.2 t501 t504 a3).bind fun bt507 => ((laws_toGraph.f k a0_0 l0_1).bind fun bt511 => ((laws_toIntS.f k l1).bind fun t516 => ((laws_toIntS.f k l2).bind fun t519 => ((impl_PlayAttacks.f k bt511.1 bt511.2 t516 t519 a3).bind fun bt522 => ((laws_eqIntSS.f k bt522.1 bt507.1).bind fun t526 => (if t526 = true then (laws_FnExactPlayAttacks.j0 k l1 l2 a3 bt507.1 bt507.2 t516 t519 bt522.1 bt522.2 (bt522.2 != bt507.2) a0_0 l0_1 bt511.1 bt511.2) else (laws_FnExactPlayAttacks.j0 k l1 l2 a3 bt507.1 bt507.2 t516 t519 bt522.1 bt522.2 true a0_0 l0_1 bt511.1 bt511.2))))))))))))))) = some r := h
 clear h
 by_cases c5 : (l1.length : Int) > 1048576
 ·rw [if_pos c5] at H
  have c5b0 : decide (1048576 < (l1.length : Int)) = true := decide_eq_true c5
  have c5b1 : decide (1048576 < l1.length) = true := decide_eq_true (by omega)
  clear c5
  obtain rfl := sI H
  go_enter Tryd.func6, Tryd.ntmps6
  go_wp2_with (first | ((with_reducible refine gate_dst (N := 4) rfl ?_);refine box_event ?hg (N := 4) ?hd (cs := #[.int .i64 a0_0, .slice A0_1 l0_1.length c0_1]) (t := 24) ?hr ?_;(case hd => rfl);(case hg => rfl);(case hr => exact gS);intro gb495 hg w6 hbox hb;have n0_ := aM (below_step (by exact bB) hb);have n1_ := aM (hbox);have n2_ := aM (sW hg : w.heap.size ≤ gb495);have n3_ := aM (sW hg : w.heap.size ≤ gb495);clear HB;have HB := n0_;have BK495 := n1_;have GW495 := n2_;have GE495 := n3_;clear n0_ n1_ n2_ n3_ hb hbox hg))
  go_ret
  exact ⟨eW, by exact bB⟩
 rw [if_neg c5] at H
 have c5b0 : decide (1048576 < (l1.length : Int)) = false := decide_eq_false c5
 have c5b1 : decide (1048576 < l1.length) = false := decide_eq_false (by omega)
 clear c5
 by_cases c7 : (l2.length : Int) > 1048576
 ·rw [if_pos c7] at H
  have c7b0 : decide (1048576 < (l2.length : Int)) = true := decide_eq_true c7
  have c7b1 : decide (1048576 < l2.length) = true := decide_eq_true (by omega)
  clear c7
  obtain rfl := sI H
  go_enter Tryd.func6, Tryd.ntmps6
  go_wp2_with (first | ((with_reducible refine gate_dst (N := 4) rfl ?_);refine box_event ?hg (N := 4) ?hd (cs := #[.int .i64 a0_0, .slice A0_1 l0_1.length c0_1]) (t := 24) ?hr ?_;(case hd => rfl);(case hg => rfl);(case hr => exact gS);intro gb495 hg w8 hbox hb;have n0_ := aM (below_step (by exact bB) hb);have n1_ := aM (hbox);have n2_ := aM (sW hg : w.heap.size ≤ gb495);have n3_ := aM (sW hg : w.heap.size ≤ gb495);clear HB;have HB := n0_;have BK495 := n1_;have GW495 := n2_;have GE495 := n3_;clear n0_ n1_ n2_ n3_ hb hbox hg))
  go_ret
  exact ⟨eW, by exact bB⟩
 rw [if_neg c7] at H
 have c7b0 : decide (1048576 < (l2.length : Int)) = false := decide_eq_false c7
 have c7b1 : decide (1048576 < l2.length) = false := decide_eq_false (by omega)
 clear c7
 replace H := bE H
 obtain ⟨t496, A90, H⟩ := H
 try dsimp only at H
 have A9 := Aside0.mk A90
 clear A90
 by_cases c10 : t496 < 0
 ·rw [if_pos c10] at H
  have c10b0 : decide (t496 < 0) = true := decide_eq_true c10
  clear c10
  obtain rfl := sI H
  go_enter Tryd.func6, Tryd.ntmps6
  go_wp2_with (first | ((with_reducible refine gate_dst (N := 4) rfl ?_);refine box_event ?hg (N := 4) ?hd (cs := #[.int .i64 a0_0, .slice A0_1 l0_1.length c0_1]) (t := 24) ?hr ?_;(case hd => rfl);(case hg => rfl);(case hr => exact gS);intro gb495 hg w11 hbox hb;have n0_ := aM (below_step (by exact bB) hb);have n1_ := aM (hbox);have n2_ := aM (sW hg : w.heap.size ≤ gb495);have n3_ := aM (sW hg : w.heap.size ≤ gb495);clear HB;have HB := n0_;have BK495 := n1_;have GW495 := n2_;have GE495 := n3_;clear n0_ n1_ n2_ n3_ hb hbox hg;have hcz12_0 := bC0 BK495.out;have hcz12_1 := bC1 BK495.out;have hfz12_0 := blk_frozen BK495.out 0;have hfz12_1 := blk_frozen BK495.out 1) | ((with_reducible refine gate_callee (f := 7) rfl ?_);refine goesL_ (some 30) rfl rfl Tryd.func7 kR rfl #[.agg #[.int .i64 a0_0, .slice A0_1 l0_1.length c0_1], .int .i64 1048576] rfl mM ?_;(with_reducible refine (laws_szGraph.calls a0_0 _ _ l0_1 1048576 t496 _ ?side1 ?side2 A9.out).mono ?_);(case side1 => exact cP (Kd.C_below HR0_1.out HB.out));(case side2 => exact HC0_1.out);rintro e w13 ⟨rfl, hb⟩;refine ⟨_, rfl, ?_⟩;have n0_ := aM (kB hb BK495.out);have n1_ := aM (below_step (by exact bB) hb);clear BK495 HB;have BK495 := n0_;have HB := n1_;clear n0_ n1_;(try clear hb)))
  go_ret
  exact ⟨eW, by exact bB⟩
 rw [if_neg c10] at H
 have c10b0 : decide (t496 < 0) = false := decide_eq_false c10
 clear c10
 replace H := bE H
 obtain ⟨⟨t497, t498⟩, A140, H⟩ := H
 try dsimp only at H
 have A14 := Aside0.mk A140
 clear A140
 replace H := bE H
 obtain ⟨t501, A150, H⟩ := H
 try dsimp only at H
 have A15 := Aside0.mk A150
 clear A150
 replace H := bE H
 obtain ⟨t504, A160, H⟩ := H
 try dsimp only at H
 have A16 := Aside0.mk A160
 clear A160
 replace H := bE H
 obtain ⟨⟨t507, t510⟩, A170, H⟩ := H
 try dsimp only at H
 have A17 := Aside0.mk A170
 clear A170
 replace H := bE H
 obtain ⟨⟨t511, t512⟩, A180, H⟩ := H
 try dsimp only at H
 have A18 := Aside0.mk A180
 clear A180
 replace H := bE H
 obtain ⟨t516, A190, H⟩ := H
 try dsimp only at H
 have A19 := Aside0.mk A190
 clear A190
 replace H := bE H
 obtain ⟨t519, A200, H⟩ := H
 try dsimp only at H
 have A20 := Aside0.mk A200
 clear A200
 replace H := bE H
 obtain ⟨⟨t522, t525⟩, A210, H⟩ := H
 try dsimp only at H
 have A21 := Aside0.mk A210
 clear A210
 have HC22 := Aside0.mk H
 clear H
 go_enter Tryd.func6, Tryd.ntmps6
 go_upto_region 14 with (first | ((with_reducible refine gate_dst (N := 4) rfl ?_);refine box_event ?hg (N := 4) ?hd (cs := #[.int .i64 a0_0, .slice A0_1 l0_1.length c0_1]) (t := 24) ?hr ?_;(case hd => rfl);(case hg => rfl);(case hr => exact gS);intro gb495 hg w23 hbox hb;have n0_ := aM (below_step (by exact bB) hb);have n1_ := aM (hbox);have n2_ := aM (sW hg : w.heap.size ≤ gb495);have n3_ := aM (sW hg : w.heap.size ≤ gb495);clear HB;have HB := n0_;have BK495 := n1_;have GW495 := n2_;have GE495 := n3_;clear n0_ n1_ n2_ n3_ hb hbox hg;have hcz24_0 := bC0 BK495.out;have hcz24_1 := bC1 BK495.out;have hfz24_0 := blk_frozen BK495.out 0;have hfz24_1 := blk_frozen BK495.out 1) | ((with_reducible refine gate_callee (f := 7) rfl ?_);refine goesL_ (some 30) rfl rfl Tryd.func7 kR rfl #[.agg #[.int .i64 a0_0, .slice A0_1 l0_1.length c0_1], .int .i64 1048576] rfl mM ?_;(with_reducible refine (laws_szGraph.calls a0_0 _ _ l0_1 1048576 t496 _ ?side1 ?side2 A9.out).mono ?_);(case side1 => exact cP (Kd.C_below HR0_1.out HB.out));(case side2 => exact HC0_1.out);rintro e w25 ⟨rfl, hb⟩;refine ⟨_, rfl, ?_⟩;have n0_ := aM (kB hb BK495.out);have n1_ := aM (below_step (by exact bB) hb);clear BK495 HB;have BK495 := n0_;have HB := n1_;clear n0_ n1_;(try clear hb);have hcz26_0 := bC0 BK495.out;have hcz26_1 := bC1 BK495.out;have hfz26_0 := blk_frozen BK495.out 0;have hfz26_1 := blk_frozen BK495.out 1) | ((with_reducible refine gate_callee (f := 9) rfl ?_);refine goesL_ (some 35) rfl rfl Tryd.func9 kR rfl #[.agg #[.int .i64 a0_0, .slice A0_1 l0_1.length c0_1]] rfl mM ?_;(with_reducible refine (laws_toGraph.calls k a0_0 _ _ l0_1 t497 t498 _ ?side1 ?side2 A14.out).mono ?_);(case side1 => exact cP (Kd.C_below HR0_1.out HB.out));(case side2 => exact HC0_1.out);rintro e w27 ⟨v499, rfl, ho0, hb⟩;refine ⟨_, rfl, ?_⟩;have n0_ := aM (Kd.R_lower ho0 (below_size (by exact bB)));have n1_ := aM (kB hb BK495.out);have n2_ := aM (below_step (by exact bB) hb);clear BK495 HB;have HO500 := n0_;have BK495 := n1_;have HB := n2_;clear n0_ n1_ n2_;(try clear hb);(try clear ho0)) | ((with_reducible refine gate_callee (f := 17) rfl ?_);refine goesL_ (some 37) rfl rfl Tryd.func17 kR rfl #[.slice A1 l1.length c1] rfl mM ?_;(with_reducible refine (laws_toIntS.calls k _ _ l1 t501 _ ?side1 ?side2 A15.out).mono ?_);(case side1 => exact cP (Kd.C_below HR1.out HB.out));(case side2 => exact HC1.out);rintro e w28 ⟨v502, rfl, ho0, hb⟩;refine ⟨_, rfl, ?_⟩;have n0_ := aM (Kd.R_below (by exact rP HO500.out) hb);have n1_ := aM (Kd.R_lower ho0 (below_size (by exact bB)));have n2_ := aM (kB hb BK495.out);have n3_ := aM (below_step (by exact bB) hb);clear HO500 BK495 HB;have HO500 := n0_;have HO503 := n1_;have BK495 := n2_;have HB := n3_;clear n0_ n1_ n2_ n3_;(try clear hb);(try clear ho0)) | ((with_reducible refine gate_callee (f := 17) rfl ?_);refine goesL_ (some 39) rfl rfl Tryd.func17 kR rfl #[.slice A2 l2.length c2] rfl mM ?_;(with_reducible refine (laws_toIntS.calls k _ _ l2 t504 _ ?side1 ?side2 A16.out).mono ?_);(case side1 => exact cP (Kd.C_below HR2.out HB.out));(case side2 => exact HC2.out);rintro e w29 ⟨v505, rfl, ho0, hb⟩;refine ⟨_, rfl, ?_⟩;have n0_ := aM (Kd.R_below (by exact rP HO500.out) hb);have n1_ := aM (Kd.R_elder' (by exact rP HO503.out) (Kd.R_base ho0) hb);have n2_ := aM (Kd.R_lower (Kd.R_new' ho0 (Kd.R_lt (by exact rP HO503.out))) (below_size (by exact bB)));have n3_ := aM (kB hb BK495.out);have n4_ := aM (below_step (by exact bB) hb);clear HO500 HO503 BK495 HB;have HO500 := n0_;have HO503 := n1_;have HO506 := n2_;have BK495 := n3_;have HB := n4_;clear n0_ n1_ n2_ n3_ n4_;(try clear hb);(try clear ho0);obtain ⟨Ao30, co30, eo30⟩ := Kd.R_slice HO500.out;subst eo30;obtain ⟨Ao31, co31, eo31⟩ := Kd.R_slice HO503.out;subst eo31;obtain ⟨Ao32, co32, eo32⟩ := Kd.R_slice HO506.out;subst eo32) | ((with_reducible refine gate_callee (f := 24) rfl ?_);refine goesL_ (some 41) rfl rfl Tryd.func24 kR rfl #[.agg #[.int .i64 t497, .slice Ao30 t498.length co30], .slice Ao31 t501.length co31, .slice Ao32 t504.length co32, .bool a3] rfl mM ?_;(with_reducible refine (spec_PlayAttacks.calls k t497 _ _ t498 _ _ t501 _ _ t504 a3 t507 t510 _ ?side1 ?side2 ?side3 ?side4 ?side5 ?side6 A17.out).mono ?_);(case side1 => exact cP (Kd.R_reads' HO500.out).2.2);(case side2 => exact (Kd.R_reads' HO500.out).2.1);(case side3 => exact cP (Kd.R_reads' HO503.out).2.2);(case side4 => exact (Kd.R_reads' HO503.out).2.1);(case side5 => exact cP (Kd.R_reads' HO506.out).2.2);(case side6 => exact (Kd.R_reads' HO506.out).2.1);rintro e w33 ⟨v508, rfl, ho0, hb⟩;refine ⟨_, rfl, ?_⟩;have n0_ := aM (Kd.R_below (by exact rP HO500.out) hb);have n1_ := aM (Kd.R_below (by exact rP HO503.out) hb);have n2_ := aM (Kd.R_below (by exact rP HO506.out) hb);have n3_ := aM (Kd.N_lower ho0 (below_size (by exact bB)));have n4_ := aM (kB hb BK495.out);have n5_ := aM (below_step (by exact bB) hb);clear HO500 HO503 HO506 BK495 HB;have HO500 := n0_;have HO503 := n1_;have HO506 := n2_;have HO509 := n3_;have BK495 := n4_;have HB := n5_;clear n0_ n1_ n2_ n3_ n4_ n5_;(try clear hb);(try clear ho0);have hcz34_0 := bC0 BK495.out;have hcz34_1 := bC1 BK495.out;have hfz34_0 := blk_frozen BK495.out 0;have hfz34_1 := blk_frozen BK495.out 1) | ((with_reducible refine gate_callee (f := 9) rfl ?_);refine goesL_ (some 45) rfl rfl Tryd.func9 kR rfl #[.agg #[.int .i64 a0_0, .slice A0_1 l0_1.length c0_1]] rfl mM ?_;(with_reducible refine (laws_toGraph.calls k a0_0 _ _ l0_1 t511 t512 _ ?side1 ?side2 A18.out).mono ?_);(case side1 => exact cP (Kd.C_below HR0_1.out HB.out));(case side2 => exact HC0_1.out);rintro e w35 ⟨v513, rfl, ho0, hb⟩;refine ⟨_, rfl, ?_⟩;have n0_ := aM (Kd.R_elder' (by exact rP HO500.out) (Kd.R_base ho0) hb);have n1_ := aM (Kd.R_below (by exact rP HO503.out) hb);have n2_ := aM (Kd.R_below (by exact rP HO506.out) hb);have n3_ := aM (Kd.N_elder' (by exact uP HO509.out) (Kd.R_base ho0) hb);have n4_ := aM (Kd.R_lower (Kd.R_new' ho0 (Kd.R_lt (by exact rP HO500.out))) (below_size (by exact bB)));have n5_ := aM (kB hb BK495.out);have n6_ := aM (below_step (by exact bB) hb);clear HO500 HO503 HO506 HO509 BK495 HB;have HO500 := n0_;have HO503 := n1_;have HO506 := n2_;have HO509 := n3_;have HO514 := n4_;have BK495 := n5_;have HB := n6_;clear n0_ n1_ n2_ n3_ n4_ n5_ n6_;(try clear hb);(try clear ho0)) | ((with_reducible refine gate_dst (N := 12) rfl ?_);refine box_event ?hg (N := 12) ?hd (cs := #[.int .i64 0, .slice none 0 0]) (t := 29) ?hr ?_;(case hd => rfl);(case hg => rfl);(case hr => exact gS);intro gb515 hg w36 hbox hb;have n0_ := aM (Kd.R_below (by exact rP HO500.out) hb);have n1_ := aM (Kd.R_below (by exact rP HO503.out) hb);have n2_ := aM (Kd.R_below (by exact rP HO506.out) hb);have n3_ := aM (Kd.N_below (Kd.N_elderB (by exact uP HO509.out) gb515 (by rw [hg];exact Nat.le_refl _)) hb);have n4_ := aM (Kd.R_below (by exact rP HO514.out) hb);have n5_ := aM (kB hb BK495.out);have n6_ := aM (below_step (by exact bB) hb);have n7_ := aM (hbox);have n8_ := aM (sW hg : w.heap.size ≤ gb515);have n9_ := aM (sW hg : w.heap.size ≤ gb515);have n10_ := aM (nL hg (kP BK495.out));have n11_ := aM (nG hg (kP BK495.out));clear HO500 HO503 HO506 HO509 HO514 BK495 HB;have HO500 := n0_;have HO503 := n1_;have HO506 := n2_;have HO509 := n3_;have HO514 := n4_;have BK495 := n5_;have HB := n6_;have BK515 := n7_;have GW515 := n8_;have GE515 := n9_;have NB495_515 := n10_;have NB515_495 := n11_;clear n0_ n1_ n2_ n3_ n4_ n5_ n6_ n7_ n8_ n9_ n10_ n11_ hb hbox hg;have hnb37 := NB515_495.out;have hnc37 := NB495_515.out;have hcz38_0 := bC0 BK515.out;have hcz38_1 := bC1 BK515.out;have hfz38_0 := blk_frozen BK515.out 0;have hfz38_1 := blk_frozen BK515.out 1;obtain ⟨Ao39, co39, eo39⟩ := Kd.R_slice HO514.out;subst eo39) | ((with_reducible refine gate_callee (f := 17) rfl ?_);refine goesL_ (some 47) rfl rfl Tryd.func17 kR rfl #[.slice A1 l1.length c1] rfl mM ?_;(with_reducible refine (laws_toIntS.calls k _ _ l1 t516 _ ?side1 ?side2 A19.out).mono ?_);(case side1 => exact Kd.C_below HR1.out (by exact bB));(case side2 => exact HC1.out);rintro e w40 ⟨v517, rfl, ho0, hb⟩;refine ⟨_, rfl, ?_⟩;have n0_ := aM (Kd.R_below (by (with_reducible repeat (first | apply Kd.R_alloc | apply Kd.S_alloc | apply Kd.N_alloc | apply Kd.R_drewN | apply Kd.S_drewN | apply Kd.N_drewN | apply Kd.R_drew | apply Kd.S_drew | apply Kd.N_drew));exact (Kd.R_mono (Kd.R_far (p := ⟨gb515, 1, none⟩) (Kd.R_far (p := ⟨gb515, 0, none⟩) (Kd.R_types HO500.out BK515.out (by decide)) (fun _ hk => hk.2) (.int .i64 t511)) (fun _ hk => hk.2) (.slice Ao39 t512.length co39)) (fun _ h_ => h_.1))) hb);have n1_ := aM (Kd.R_elder' (by (with_reducible repeat (first | apply Kd.R_alloc | apply Kd.S_alloc | apply Kd.N_alloc | apply Kd.R_drewN | apply Kd.S_drewN | apply Kd.N_drewN | apply Kd.R_drew | apply Kd.S_drew | apply Kd.N_drew));exact (Kd.R_mono (Kd.R_far (p := ⟨gb515, 1, none⟩) (Kd.R_far (p := ⟨gb515, 0, none⟩) (Kd.R_types HO503.out BK515.out (by decide)) (fun _ hk => hk.2) (.int .i64 t511)) (fun _ hk => hk.2) (.slice Ao39 t512.length co39)) (fun _ h_ => h_.1))) (Kd.R_base ho0) hb);have n2_ := aM (Kd.R_elder' (by (with_reducible repeat (first | apply Kd.R_alloc | apply Kd.S_alloc | apply Kd.N_alloc | apply Kd.R_drewN | apply Kd.S_drewN | apply Kd.N_drewN | apply Kd.R_drew | apply Kd.S_drew | apply Kd.N_drew));exact (Kd.R_mono (Kd.R_far (p := ⟨gb515, 1, none⟩) (Kd.R_far (p := ⟨gb515, 0, none⟩) (Kd.R_types HO506.out BK515.out (by decide)) (fun _ hk => hk.2) (.int .i64 t511)) (fun _ hk => hk.2) (.slice Ao39 t512.length co39)) (fun _ h_ => h_.1))) (Kd.R_base ho0) hb);have n3_ := aM (Kd.N_elder' (by (with_reducible repeat (first | apply Kd.R_alloc | apply Kd.S_alloc | apply Kd.N_alloc | apply Kd.R_drewN | apply Kd.S_drewN | apply Kd.N_drewN | apply Kd.R_drew | apply Kd.S_drew | apply Kd.N_drew));exact (Kd.N_mono (ok' := fun k_ => True ∧ some k_ ≠ (.slice Ao39 t512.length co39 : Value).ownBlock) (Kd.N_far (p := ⟨gb515, 1, none⟩) (Kd.N_far (p := ⟨gb515, 0, none⟩) HO509.out (fun _ hk => hk.2) (.int .i64 t511)) (fun _ hk => hk.2) (.slice Ao39 t512.length co39)) (fun _ h_ => ⟨trivial, h_.1.2⟩))) (Kd.R_base ho0) hb);have n4_ := aM (Kd.R_below (by (with_reducible repeat (first | apply Kd.R_alloc | apply Kd.S_alloc | apply Kd.N_alloc | apply Kd.R_drewN | apply Kd.S_drewN | apply Kd.N_drewN | apply Kd.R_drew | apply Kd.S_drew | apply Kd.N_drew));exact (Kd.R_mono (Kd.R_far (p := ⟨gb515, 1, none⟩) (Kd.R_far (p := ⟨gb515, 0, none⟩) (Kd.R_types HO514.out BK515.out (by decide)) (fun _ hk => hk.2) (.int .i64 t511)) (fun _ hk => hk.2) (.slice Ao39 t512.length co39)) (fun _ h_ => h_.1))) hb);have n5_ := aM (Kd.R_lower (Kd.R_new' (Kd.R_new' ho0 (Kd.R_lt (by (with_reducible repeat (first | apply Kd.R_alloc | apply Kd.S_alloc | apply Kd.N_alloc | apply Kd.R_drewN | apply Kd.S_drewN | apply Kd.N_drewN | apply Kd.R_drew | apply Kd.S_drew | apply Kd.N_drew));exact (Kd.R_mono (Kd.R_far (p := ⟨gb515, 1, none⟩) (Kd.R_far (p := ⟨gb515, 0, none⟩) (Kd.R_types HO503.out BK515.out (by decide)) (fun _ hk => hk.2) (.int .i64 t511)) (fun _ hk => hk.2) (.slice Ao39 t512.length co39)) (fun _ h_ => h_.1))))) (Kd.R_lt (by (with_reducible repeat (first | apply Kd.R_alloc | apply Kd.S_alloc | apply Kd.N_alloc | apply Kd.R_drewN | apply Kd.S_drewN | apply Kd.N_drewN | apply Kd.R_drew | apply Kd.S_drew | apply Kd.N_drew));exact (Kd.R_mono (Kd.R_far (p := ⟨gb515, 1, none⟩) (Kd.R_far (p := ⟨gb515, 0, none⟩) (Kd.R_types HO506.out BK515.out (by decide)) (fun _ hk => hk.2) (.int .i64 t511)) (fun _ hk => hk.2) (.slice Ao39 t512.length co39)) (fun _ h_ => h_.1))))) (below_size (by exact bB)));have n6_ := aM (blk_below (g := gb495) (o := .cells #[.int .i64 a0_0, .slice A0_1 l0_1.length c0_1] 24 (0, 0)) (by refine kP ?_;refine blk_far ?_ NB495_515.out _;refine kP ?_;refine blk_far ?_ NB495_515.out _;exact kP BK495.out) hb);have n7_ := aM (blk_below (g := gb515) (o := .cells #[.int .i64 t511, .slice Ao39 t512.length co39] 29 (0, 0)) (by refine kP ?_;refine blk_put (cs := #[.int .i64 t511, .slice none 0 0]) ?_ 1 _ rfl;refine kP ?_;refine blk_put (cs := #[.int .i64 0, .slice none 0 0]) ?_ 0 _ rfl;exact kP BK515.out) hb);have n8_ := aM (below_step (by exact bB) hb);clear HO500 HO503 HO506 HO509 HO514 BK495 BK515 HB;have HO500 := n0_;have HO503 := n1_;have HO506 := n2_;have HO509 := n3_;have HO514 := n4_;have HO518 := n5_;have BK495 := n6_;have BK515 := n7_;have HB := n8_;clear n0_ n1_ n2_ n3_ n4_ n5_ n6_ n7_ n8_;(try clear hb);(try clear ho0)) | ((with_reducible refine gate_callee (f := 17) rfl ?_);refine goesL_ (some 49) rfl rfl Tryd.func17 kR rfl #[.slice A2 l2.length c2] rfl mM ?_;(with_reducible refine (laws_toIntS.calls k _ _ l2 t519 _ ?side1 ?side2 A20.out).mono ?_);(case side1 => exact cP (Kd.C_below HR2.out HB.out));(case side2 => exact HC2.out);rintro e w41 ⟨v520, rfl, ho0, hb⟩;refine ⟨_, rfl, ?_⟩;have n0_ := aM (Kd.R_below (by exact rP HO500.out) hb);have n1_ := aM (Kd.R_elder' (by exact rP HO503.out) (Kd.R_base ho0) hb);have n2_ := aM (Kd.R_elder' (by exact rP HO506.out) (Kd.R_base ho0) hb);have n3_ := aM (Kd.N_elder' (by exact uP HO509.out) (Kd.R_base ho0) hb);have n4_ := aM (Kd.R_below (by exact rP HO514.out) hb);have n5_ := aM (Kd.R_elder' (by exact rP HO518.out) (Kd.R_base ho0) hb);have n6_ := aM (Kd.R_lower (Kd.R_new' (Kd.R_new' (Kd.R_new' ho0 (Kd.R_lt (by exact rP HO503.out))) (Kd.R_lt (by exact rP HO506.out))) (Kd.R_lt (by exact rP HO518.out))) (below_size (by exact bB)));have n7_ := aM (kB hb BK495.out);have n8_ := aM (kB hb BK515.out);have n9_ := aM (below_step (by exact bB) hb);clear HO500 HO503 HO506 HO509 HO514 HO518 BK495 BK515 HB;have HO500 := n0_;have HO503 := n1_;have HO506 := n2_;have HO509 := n3_;have HO514 := n4_;have HO518 := n5_;have HO521 := n6_;have BK495 := n7_;have BK515 := n8_;have HB := n9_;clear n0_ n1_ n2_ n3_ n4_ n5_ n6_ n7_ n8_ n9_;(try clear hb);(try clear ho0);have hcz42_0 := bC0 BK515.out;have hcz42_1 := bC1 BK515.out;have hfz42_0 := blk_frozen BK515.out 0;have hfz42_1 := blk_frozen BK515.out 1;obtain ⟨Ao43, co43, eo43⟩ := Kd.R_slice HO518.out;subst eo43;obtain ⟨Ao44, co44, eo44⟩ := Kd.R_slice HO521.out;subst eo44) | ((with_reducible refine gate_callee (f := 25) rfl ?_);refine goesL_ (some 55) rfl rfl Tryd.func25 kR rfl #[.agg #[.int .i64 t511, .slice Ao39 t512.length co39], .slice Ao43 t516.length co43, .slice Ao44 t519.length co44, .bool a3] rfl mM ?_;(with_reducible refine (impl_PlayAttacks.calls k t511 _ _ t512 _ _ t516 _ _ t519 a3 t522 t525 _ ?sideT ?side1 ?side2 ?side3 ?side4 ?side5 ?side6 A21.out).mono ?_);(case sideT => exact tabG_below HT.out (by exact bB));(case side1 => exact cP (Kd.R_reads' HO514.out).2.2);(case side2 => exact (Kd.R_reads' HO514.out).2.1);(case side3 => exact cP (Kd.R_reads' HO518.out).2.2);(case side4 => exact (Kd.R_reads' HO518.out).2.1);(case side5 => exact cP (Kd.R_reads' HO521.out).2.2);(case side6 => exact (Kd.R_reads' HO521.out).2.1);rintro e w45 ⟨v523, rfl, ho0, hb⟩;refine ⟨_, rfl, ?_⟩;obtain ⟨P9_, hp9_⟩ := mine9_old hb;have n0_ := aM (Kd.R_below (by exact rP HO500.out) hb);have n1_ := aM (Kd.R_below (by exact rP HO503.out) hb);have n2_ := aM (Kd.R_below (by exact rP HO506.out) hb);have n3_ := aM (Kd.N_mono (ok' := fun k_ => ¬ P9_ k_ ∧ some k_ ≠ (.slice Ao39 t512.length co39 : Value).ownBlock ∧ some k_ ≠ (.slice Ao43 t516.length co43 : Value).ownBlock ∧ some k_ ≠ (.slice Ao44 t519.length co44 : Value).ownBlock) (Kd.N_old (ok := fun k_ => ((True ∧ some k_ ≠ (.slice Ao39 t512.length co39 : Value).ownBlock) ∧ some k_ ≠ (.slice Ao43 t516.length co43 : Value).ownBlock) ∧ some k_ ≠ (.slice Ao44 t519.length co44 : Value).ownBlock) (by first | exact uP HO509.out | exact rP HO509.out | exact tP HO509.out) hb) (fun k_ hk_ => ⟨fun h_ => absurd ((hp9_ k_).1 h_) (Nat.not_le.mpr hk_.2), hk_.1.1.1.2, hk_.1.1.2, hk_.1.2⟩));have n4_ := aM (Kd.R_below (by exact rP HO514.out) hb);have n5_ := aM (Kd.R_mono (ok' := fun k_ => ¬ P9_ k_ ∧ some k_ ≠ (.slice Ao44 t519.length co44 : Value).ownBlock) (Kd.R_old (ok := fun k_ => some k_ ≠ (.slice Ao44 t519.length co44 : Value).ownBlock) (Kd.R_mono (rP HO518.out) (fun _ hk_ => hk_.2)) hb) (fun k_ hk_ => ⟨fun h_ => absurd ((hp9_ k_).1 h_) (Nat.not_le.mpr hk_.2), hk_.1⟩));have n6_ := aM (Kd.R_mono (ok' := fun k_ => ¬ P9_ k_ ∧ some k_ ≠ (.slice Ao43 t516.length co43 : Value).ownBlock) (Kd.R_old (ok := fun k_ => some k_ ≠ (.slice Ao43 t516.length co43 : Value).ownBlock) (Kd.R_mono (rP HO521.out) (fun _ hk_ => hk_.2)) hb) (fun k_ hk_ => ⟨fun h_ => absurd ((hp9_ k_).1 h_) (Nat.not_le.mpr hk_.2), hk_.1⟩));have n7_ := aM (Kd.S_lower (Kd.S_mono (ok' := fun k_ => P9_ k_) (Kd.S_bound ho0) (fun k_ hk_ => (hp9_ k_).2 hk_.2.1)) (below_size (by exact bB)));have n8_ := aM (kB hb BK495.out);have n9_ := aM (kB hb BK515.out);have n10_ := aM (below_step (by exact bB) hb);clear HO500 HO503 HO506 HO509 HO514 HO518 HO521 BK495 BK515 HB;have HO500 := n0_;have HO503 := n1_;have HO506 := n2_;have HO509 := n3_;have HO514 := n4_;have HO518 := n5_;have HO521 := n6_;have HO524 := n7_;have BK495 := n8_;have BK515 := n9_;have HB := n10_;clear n0_ n1_ n2_ n3_ n4_ n5_ n6_ n7_ n8_ n9_ n10_;(try clear hb);(try clear ho0)))
 (try simp only [Act.put, List.setIfInBounds_toArray, List.set_cons_zero, List.set_cons_succ])
 go_cut [66] (fun v66 wc => ∃ (P9_ : Nat → Prop) (kq : Nat) (x66_21 : Bool), v66 = .bool x66_21 ∧ Aside0 (laws_FnExactPlayAttacks.j0 kq l1 l2 a3 t507 t510 t516 t519 t522 t525 x66_21 a0_0 l0_1 t511 t512 = some r) ∧ Aside0 (kq ≤ k) ∧ Aside0 (Kd.N (Kd.slice 3 (Kd.int .i64)) 36 wc w.heap.size (fun k_ => ¬ P9_ k_ ∧ some k_ ≠ (.slice Ao39 t512.length co39 : Value).ownBlock ∧ some k_ ≠ (.slice Ao43 t516.length co43 : Value).ownBlock ∧ some k_ ≠ (.slice Ao44 t519.length co44 : Value).ownBlock) v508 t507) ∧ Aside0 (Kd.R (Kd.int .i64) 3 wc w.heap.size (fun k_ => ¬ P9_ k_ ∧ some k_ ≠ (.slice Ao44 t519.length co44 : Value).ownBlock) (.slice Ao43 t516.length co43) t516) ∧ Aside0 (Kd.R (Kd.int .i64) 3 wc w.heap.size (fun k_ => ¬ P9_ k_ ∧ some k_ ≠ (.slice Ao43 t516.length co43 : Value).ownBlock) (.slice Ao44 t519.length co44) t519) ∧ Aside0 (Kd.S (Kd.slice 3 (Kd.int .i64)) 36 wc w.heap.size (fun k_ => P9_ k_) v523 t522) ∧ Aside0 (Kd.R k78 78 wc w.heap.size (fun _ => True) (.slice Ao39 t512.length co39) t512) ∧ Aside0 (wc.heap[gb495]? = some (.cells #[.int .i64 a0_0, (.slice A0_1 l0_1.length c0_1)] 24 (0, 0))) ∧ Aside0 (wc.heap[gb515]? = some (.cells #[.int .i64 t511, (.slice Ao39 t512.length co39)] 29 (0, 0))) ∧ Aside0 (Below w.heap.size w wc))
 case first =>
  have H := HC22.out
  clear HC22
  replace H := bE H
  obtain ⟨t526, A460, H⟩ := H
  try dsimp only at H
  have A46 := Aside0.mk A460
  clear A460
  by_cases c47 : t526 = true
  ·subst c47
   rw [if_pos rfl] at H
   have H' := Aside0.mk H
   clear H
   obtain ⟨Ao48, co48, eo48⟩ := Kd.S_slice HO524.out
   subst eo48
   obtain ⟨Ao49, co49, eo49⟩ := Kd.N_slice HO509.out
   subst eo49
   go_wp2_with (first | ((with_reducible refine gate_callee (f := 11) rfl ?_);refine goesL_ (some 60) rfl rfl Tryd.func11 kR rfl #[.slice Ao48 t522.length co48, .slice Ao49 t507.length co49] rfl mM ?_;(with_reducible refine (laws_eqIntSS.calls k _ _ t522 _ _ t507 true _ ?side1 ?side2 ?side3 ?side4 A46.out).mono ?_);(case side1 => exact cP (Kd.S_reads' HO524.out).2.2);(case side2 => exact (Kd.S_reads' HO524.out).2.1);(case side3 => exact cP (Kd.N_reads' HO509.out).2.2);(case side4 => exact (Kd.N_reads' HO509.out).2.1);rintro e w' ⟨rfl, ⟨nd, rfl⟩⟩;refine ⟨_, rfl, ?_⟩))
   go_meet
   case rel => exact ⟨P9_, _, ((t525 != t510)), eF, H', ⟨by first | omega | exact Nat.le_refl _⟩, ⟨by (with_reducible repeat (first | apply Kd.R_alloc | apply Kd.S_alloc | apply Kd.N_alloc | apply Kd.R_drewN | apply Kd.S_drewN | apply Kd.N_drewN | apply Kd.R_drew | apply Kd.S_drew | apply Kd.N_drew));exact Kd.N_mono HO509.out (fun _ hk => by first | exact hk | exact hk.2 | exact hk.1 | exact hk.2.1 | exact ⟨hk.1, hk.2.1⟩ | trivial)⟩, ⟨by (with_reducible repeat (first | apply Kd.R_alloc | apply Kd.S_alloc | apply Kd.N_alloc | apply Kd.R_drewN | apply Kd.S_drewN | apply Kd.N_drewN | apply Kd.R_drew | apply Kd.S_drew | apply Kd.N_drew));exact Kd.R_mono HO518.out (fun _ hk => by first | exact hk | exact hk.2 | exact hk.1 | exact hk.2.1 | exact ⟨hk.1, hk.2.1⟩ | trivial)⟩, ⟨by (with_reducible repeat (first | apply Kd.R_alloc | apply Kd.S_alloc | apply Kd.N_alloc | apply Kd.R_drewN | apply Kd.S_drewN | apply Kd.N_drewN | apply Kd.R_drew | apply Kd.S_drew | apply Kd.N_drew));exact Kd.R_mono HO521.out (fun _ hk => by first | exact hk | exact hk.2 | exact hk.1 | exact hk.2.1 | exact ⟨hk.1, hk.2.1⟩ | trivial)⟩, ⟨by (with_reducible repeat (first | apply Kd.R_alloc | apply Kd.S_alloc | apply Kd.N_alloc | apply Kd.R_drewN | apply Kd.S_drewN | apply Kd.N_drewN | apply Kd.R_drew | apply Kd.S_drew | apply Kd.N_drew));exact Kd.S_mono HO524.out (fun _ hk => by first | exact hk | exact hk.2 | exact hk.1 | exact hk.2.1 | exact ⟨hk.1, hk.2.1⟩ | trivial)⟩, ⟨by (with_reducible repeat (first | apply Kd.R_alloc | apply Kd.S_alloc | apply Kd.N_alloc | apply Kd.R_drewN | apply Kd.S_drewN | apply Kd.N_drewN | apply Kd.R_drew | apply Kd.S_drew | apply Kd.N_drew));exact Kd.R_mono HO514.out (fun _ hk => trivial)⟩, ⟨by exact kP BK495.out⟩, ⟨by exact kP BK515.out⟩, ⟨by exact bB⟩⟩
  replace c47 := Bool.eq_false_iff.mpr c47
  subst c47
  rw [if_neg fF] at H
  have H' := Aside0.mk H
  clear H
  obtain ⟨Ao50, co50, eo50⟩ := Kd.S_slice HO524.out
  subst eo50
  obtain ⟨Ao51, co51, eo51⟩ := Kd.N_slice HO509.out
  subst eo51
  go_wp2_with (first | ((with_reducible refine gate_callee (f := 11) rfl ?_);refine goesL_ (some 60) rfl rfl Tryd.func11 kR rfl #[.slice Ao50 t522.length co50, .slice Ao51 t507.length co51] rfl mM ?_;(with_reducible refine (laws_eqIntSS.calls k _ _ t522 _ _ t507 false _ ?side1 ?side2 ?side3 ?side4 A46.out).mono ?_);(case side1 => exact cP (Kd.S_reads' HO524.out).2.2);(case side2 => exact (Kd.S_reads' HO524.out).2.1);(case side3 => exact cP (Kd.N_reads' HO509.out).2.2);(case side4 => exact (Kd.N_reads' HO509.out).2.1);rintro e w' ⟨rfl, ⟨nd, rfl⟩⟩;refine ⟨_, rfl, ?_⟩))
  go_meet
  case rel => exact ⟨P9_, _, (true), eF, H', ⟨by first | omega | exact Nat.le_refl _⟩, ⟨by (with_reducible repeat (first | apply Kd.R_alloc | apply Kd.S_alloc | apply Kd.N_alloc | apply Kd.R_drewN | apply Kd.S_drewN | apply Kd.N_drewN | apply Kd.R_drew | apply Kd.S_drew | apply Kd.N_drew));exact Kd.N_mono HO509.out (fun _ hk => by first | exact hk | exact hk.2 | exact hk.1 | exact hk.2.1 | exact ⟨hk.1, hk.2.1⟩ | trivial)⟩, ⟨by (with_reducible repeat (first | apply Kd.R_alloc | apply Kd.S_alloc | apply Kd.N_alloc | apply Kd.R_drewN | apply Kd.S_drewN | apply Kd.N_drewN | apply Kd.R_drew | apply Kd.S_drew | apply Kd.N_drew));exact Kd.R_mono HO518.out (fun _ hk => by first | exact hk | exact hk.2 | exact hk.1 | exact hk.2.1 | exact ⟨hk.1, hk.2.1⟩ | trivial)⟩, ⟨by (with_reducible repeat (first | apply Kd.R_alloc | apply Kd.S_alloc | apply Kd.N_alloc | apply Kd.R_drewN | apply Kd.S_drewN | apply Kd.N_drewN | apply Kd.R_drew | apply Kd.S_drew | apply Kd.N_drew));exact Kd.R_mono HO521.out (fun _ hk => by first | exact hk | exact hk.2 | exact hk.1 | exact hk.2.1 | exact ⟨hk.1, hk.2.1⟩ | trivial)⟩, ⟨by (with_reducible repeat (first | apply Kd.R_alloc | apply Kd.S_alloc | apply Kd.N_alloc | apply Kd.R_drewN | apply Kd.S_drewN | apply Kd.N_drewN | apply Kd.R_drew | apply Kd.S_drew | apply Kd.N_drew));exact Kd.S_mono HO524.out (fun _ hk => by first | exact hk | exact hk.2 | exact hk.1 | exact hk.2.1 | exact ⟨hk.1, hk.2.1⟩ | trivial)⟩, ⟨by (with_reducible repeat (first | apply Kd.R_alloc | apply Kd.S_alloc | apply Kd.N_alloc | apply Kd.R_drewN | apply Kd.S_drewN | apply Kd.N_drewN | apply Kd.R_drew | apply Kd.S_drew | apply Kd.N_drew));exact Kd.R_mono HO514.out (fun _ hk => trivial)⟩, ⟨by exact kP BK495.out⟩, ⟨by exact kP BK515.out⟩, ⟨by exact bB⟩⟩
 case rest =>
  clear HC22
  try clear c1
  try clear c2
  try clear p2
  try clear c3
  try clear c4
  try clear c5
  try clear c5b0
  try clear c5b1
  try clear c6
  try clear c7
  try clear c7b0
  try clear c7b1
  try clear c9
  try clear c10
  try clear c10b0
  try clear c11
  try clear c17
  try clear c24
  try clear c25
  try clear c37
  try clear c47
  try clear hcz12_0
  try clear hcz12_1
  try clear hcz24_0
  try clear hcz24_1
  try clear hcz26_0
  try clear hcz26_1
  try clear hcz34_0
  try clear hcz34_1
  try clear hcz38_0
  try clear hcz38_1
  try clear hcz42_0
  try clear hcz42_1
  try clear hfz12_0
  try clear hfz12_1
  try clear hfz24_0
  try clear hfz24_1
  try clear hfz26_0
  try clear hfz26_1
  try clear hfz34_0
  try clear hfz34_1
  try clear hfz38_0
  try clear hfz38_1
  try clear hfz42_0
  try clear hfz42_1
  obtain ⟨P9_, kq, x66_21, rfl, HA, HJ21, HO_10, HO_13, HO_14, HO_15, HO_516001, BK495, BK515, HB⟩ := hcut
  cases kq with
  | zero => exact absurd HA.out (by simp [laws_FnExactPlayAttacks.j0])
  | succ kj21 =>
   have H := HA.out
   clear HA
   simp only [laws_FnExactPlayAttacks.j0] at H
   by_cases c52 : x66_21 = true
   ·subst c52
    rw [if_pos rfl] at H
    obtain rfl := sI H
    go_wp2
    go_ret
    exact ⟨eW, by exact bB⟩
   replace c52 := Bool.eq_false_iff.mpr c52
   subst c52
   rw [if_neg fF] at H
   replace H := bE H
   obtain ⟨⟨t527, t528⟩, A530, H⟩ := H
   try dsimp only at H
   have A53 := Aside0.mk A530
   clear A530
   replace H := bE H
   obtain ⟨t531, A540, H⟩ := H
   try dsimp only at H
   have A54 := Aside0.mk A540
   clear A540
   by_cases c55 : t531 = true
   rotate_left
   ·replace c55 := Bool.eq_false_iff.mpr c55
    subst c55
    rw [if_neg fF] at H
    obtain rfl := sI H
    try go_wp2
    have n0_ := aM (Kd.N_drew HO_10.out)
    have n1_ := aM (Kd.R_drew HO_13.out)
    have n2_ := aM (Kd.R_drew HO_14.out)
    have n3_ := aM (Kd.S_drew HO_15.out)
    have n4_ := aM (Kd.R_drew HO_516001.out)
    have n5_ := aM (blk_drew BK495.out)
    have n6_ := aM (blk_drew BK515.out)
    have n7_ := aM (below_drew1 HB.out)
    clear HO_10 HO_13 HO_14 HO_15 HO_516001 BK495 BK515 HB
    have HO_10 := n0_
    have HO_13 := n1_
    have HO_14 := n2_
    have HO_15 := n3_
    have HO_516001 := n4_
    have BK495 := n5_
    have BK515 := n6_
    have HB := n7_
    clear n0_ n1_ n2_ n3_ n4_ n5_ n6_ n7_
    refine start_ (n := 5) (S := fun w' => w'.cell? ⟨gb515, 0, none⟩ = some (.int .i64 t511) ∧ w'.cell? ⟨gb515, 1, none⟩ = some (.slice Ao39 t512.length co39) ∧ w'.cell? ⟨gb495, 0, none⟩ = some (.int .i64 a0_0) ∧ w'.cell? ⟨gb495, 1, none⟩ = some (.slice A0_1 l0_1.length c0_1)) (ds := []) (pT 0 5) kR rfl rfl ⟨(blk_cell BK515.out 0).trans rfl, (blk_cell BK515.out 1).trans rfl, (blk_cell BK495.out 0).trans rfl, (blk_cell BK495.out 1).trans rfl⟩ (fun hHeld => ?_)
    generalize wc.drew = w135 at HO_10 HO_13 HO_14 HO_15 HO_516001 BK495 BK515 HB hHeld ⊢
    refine take_ (i := 0) (N := some 67) (v := ?_) (a' := ?_) (pT 1 4) rfl rfl kR (fun _ _ _ h => h) (Or.inl ⟨by rfl, ?_⟩) hHeld ?_ ?_
    rotate_left
    ·rintro w' ⟨s0, s1, s2, s3⟩
     go_simp
     with_reducible rfl
    rotate_left
    ·exact aP
    refine take_ (i := 1) (N := some 68) (v := ?_) (a' := ?_) (pT 2 3) rfl rfl kR (fun _ _ _ h => h) (Or.inl ⟨by rfl, ?_⟩) hHeld ?_ ?_
    rotate_left
    ·rintro w' ⟨s0, s1, s2, s3⟩
     go_simp
     with_reducible rfl
    rotate_left
    ·exact aP
    refine one_ (i := 2) (N := some 69) (pT 3 2) rfl rfl kR (by decide) (fun K hK => ?_)
    refine goes_ Tryd.func9 kR rfl #[.agg #[.int .i64 a0_0, .slice A0_1 l0_1.length c0_1]] (by rfl) rfl rfl mM ?_
    with_reducible refine (laws_toGraph.calls kj21 a0_0 _ _ l0_1 t527 t528 _ ?side1 ?side2 A53.out).mono ?_
    (case side1 => exact cP (Kd.C_below HR0_1.out HB.out))
    (case side2 => exact HC0_1.out)
    rintro e w136 ⟨v529, rfl, ho0, hb⟩
    refine ⟨_, rfl, ?_⟩
    have n0_ := aM (Kd.N_below (by exact uP HO_10.out) hb)
    have n1_ := aM (Kd.R_below (by exact rP HO_13.out) hb)
    have n2_ := aM (Kd.R_below (by exact rP HO_14.out) hb)
    have n3_ := aM (Kd.S_below (by exact tP HO_15.out) hb)
    have n4_ := aM (Kd.R_elder' (by exact rP HO_516001.out) (Kd.R_base ho0) hb)
    have n5_ := aM (Kd.R_lower (Kd.R_new' ho0 (Kd.R_lt (by exact rP HO_516001.out))) (below_size (by exact bB)))
    have n6_ := aM (kB hb BK495.out)
    have n7_ := aM (kB hb BK515.out)
    have n8_ := aM (below_step (by exact bB) hb)
    clear HO_10 HO_13 HO_14 HO_15 HO_516001 BK495 BK515 HB
    have HO_10 := n0_
    have HO_13 := n1_
    have HO_14 := n2_
    have HO_15 := n3_
    have HO_516001 := n4_
    have HO530 := n5_
    have BK495 := n6_
    have BK515 := n7_
    have HB := n8_
    clear n0_ n1_ n2_ n3_ n4_ n5_ n6_ n7_ n8_
    (try clear hb)
    (try clear hb2)
    (try clear hk)
    (try clear hi)
    (try clear ho0)
    obtain ⟨Ao137, co137, eo137⟩ := Kd.R_slice HO530.out
    (first | subst eo137 | (injection eo137 with f1_ f2_ f3_;have f4_ := f1_.symm;have f5_ := f3_.symm;clear f1_ f2_ f3_;subst f4_;subst f5_))
    refine hK.out _ _ ⟨(blk_cell BK515.out 0).trans rfl, (blk_cell BK515.out 1).trans rfl, (blk_cell BK495.out 0).trans rfl, (blk_cell BK495.out 1).trans rfl⟩ (fun hHeld => ?_)
    clear hK K
    refine norm_ (a' := ?_) ?_ ?_
    rotate_left
    ·show Act.put _ (some 69) _ = _
     simp only [Act.put, List.setIfInBounds_toArray, List.set_cons_zero, List.set_cons_succ, i64_w, i32_w]
     rfl
    refine one_ (i := 3) (N := some 70) (pT 4 1) rfl rfl kR (by decide) (fun K hK => ?_)
    refine goes_ Tryd.func12 kR rfl #[.agg #[.int .i64 t511, .slice Ao39 t512.length co39], .agg #[.int .i64 t527, .slice Ao137 t528.length co137]] (by rfl) rfl rfl mM ?_
    with_reducible refine (laws_eqGraph.calls kj21 t511 _ _ t512 t527 _ _ t528 false _ ?side1 ?side2 ?side3 ?side4 A54.out).mono ?_
    (case side1 => exact cP (Kd.R_reads' HO_516001.out).2.2)
    (case side2 => exact (Kd.R_reads' HO_516001.out).2.1)
    (case side3 => exact cP (Kd.R_reads' HO530.out).2.2)
    (case side4 => exact (Kd.R_reads' HO530.out).2.1)
    rintro e w138 ⟨rfl, hb⟩
    refine ⟨_, rfl, ?_⟩
    have n0_ := aM (Kd.N_below (by exact uP HO_10.out) hb)
    have n1_ := aM (Kd.R_below (by exact rP HO_13.out) hb)
    have n2_ := aM (Kd.R_below (by exact rP HO_14.out) hb)
    have n3_ := aM (Kd.S_below (by exact tP HO_15.out) hb)
    have n4_ := aM (Kd.R_below (by exact rP HO_516001.out) hb)
    have n5_ := aM (Kd.R_below (by exact rP HO530.out) hb)
    have n6_ := aM (kB hb BK495.out)
    have n7_ := aM (kB hb BK515.out)
    have n8_ := aM (below_step (by exact bB) hb)
    clear HO_10 HO_13 HO_14 HO_15 HO_516001 HO530 BK495 BK515 HB
    have HO_10 := n0_
    have HO_13 := n1_
    have HO_14 := n2_
    have HO_15 := n3_
    have HO_516001 := n4_
    have HO530 := n5_
    have BK495 := n6_
    have BK515 := n7_
    have HB := n8_
    clear n0_ n1_ n2_ n3_ n4_ n5_ n6_ n7_ n8_
    (try clear hb)
    (try clear hb2)
    (try clear hk)
    (try clear hi)
    refine hK.out _ _ ⟨(blk_cell BK515.out 0).trans rfl, (blk_cell BK515.out 1).trans rfl, (blk_cell BK495.out 0).trans rfl, (blk_cell BK495.out 1).trans rfl⟩ (fun hHeld => ?_)
    clear hK K
    refine norm_ (a' := ?_) ?_ ?_
    rotate_left
    ·show Act.put _ (some 70) _ = _
     simp only [Act.put, List.setIfInBounds_toArray, List.set_cons_zero, List.set_cons_succ, i64_w, i32_w]
     rfl
    refine pure_ (i := 4) (N := some 71) (v := ?_) (a' := ?_) (pT 5 0) rfl rfl kR (fun _ _ _ h => h) (Or.inl ⟨by rfl, ?_⟩) ?_ ?_
    rotate_left
    ·exact gW
    rotate_left
    ·exact aP
    refine done_ kR ?_
    try go_wp2
    go_ret
    exact ⟨eW, by exact bB⟩
   subst c55
   rw [if_pos rfl] at H
   replace H := bE H
   obtain ⟨t532, A560, H⟩ := H
   try dsimp only at H
   have A56 := Aside0.mk A560
   clear A560
   replace H := bE H
   obtain ⟨t535, A570, H⟩ := H
   try dsimp only at H
   have A57 := Aside0.mk A570
   clear A570
   by_cases c58 : t535 = true
   rotate_left
   ·replace c58 := Bool.eq_false_iff.mpr c58
    subst c58
    rw [if_neg fF] at H
    obtain rfl := sI H
    try go_wp2
    have n0_ := aM (Kd.N_drew HO_10.out)
    have n1_ := aM (Kd.R_drew HO_13.out)
    have n2_ := aM (Kd.R_drew HO_14.out)
    have n3_ := aM (Kd.S_drew HO_15.out)
    have n4_ := aM (Kd.R_drew HO_516001.out)
    have n5_ := aM (blk_drew BK495.out)
    have n6_ := aM (blk_drew BK515.out)
    have n7_ := aM (below_drew1 HB.out)
    clear HO_10 HO_13 HO_14 HO_15 HO_516001 BK495 BK515 HB
    have HO_10 := n0_
    have HO_13 := n1_
    have HO_14 := n2_
    have HO_15 := n3_
    have HO_516001 := n4_
    have BK495 := n5_
    have BK515 := n6_
    have HB := n7_
    clear n0_ n1_ n2_ n3_ n4_ n5_ n6_ n7_
    refine start_ (n := 5) (S := fun w' => w'.cell? ⟨gb515, 0, none⟩ = some (.int .i64 t511) ∧ w'.cell? ⟨gb515, 1, none⟩ = some (.slice Ao39 t512.length co39) ∧ w'.cell? ⟨gb495, 0, none⟩ = some (.int .i64 a0_0) ∧ w'.cell? ⟨gb495, 1, none⟩ = some (.slice A0_1 l0_1.length c0_1)) (ds := []) (pT 0 5) kR rfl rfl ⟨(blk_cell BK515.out 0).trans rfl, (blk_cell BK515.out 1).trans rfl, (blk_cell BK495.out 0).trans rfl, (blk_cell BK495.out 1).trans rfl⟩ (fun hHeld => ?_)
    generalize wc.drew = w129 at HO_10 HO_13 HO_14 HO_15 HO_516001 BK495 BK515 HB hHeld ⊢
    refine take_ (i := 0) (N := some 67) (v := ?_) (a' := ?_) (pT 1 4) rfl rfl kR (fun _ _ _ h => h) (Or.inl ⟨by rfl, ?_⟩) hHeld ?_ ?_
    rotate_left
    ·rintro w' ⟨s0, s1, s2, s3⟩
     go_simp
     with_reducible rfl
    rotate_left
    ·exact aP
    refine take_ (i := 1) (N := some 68) (v := ?_) (a' := ?_) (pT 2 3) rfl rfl kR (fun _ _ _ h => h) (Or.inl ⟨by rfl, ?_⟩) hHeld ?_ ?_
    rotate_left
    ·rintro w' ⟨s0, s1, s2, s3⟩
     go_simp
     with_reducible rfl
    rotate_left
    ·exact aP
    refine one_ (i := 2) (N := some 69) (pT 3 2) rfl rfl kR (by decide) (fun K hK => ?_)
    refine goes_ Tryd.func9 kR rfl #[.agg #[.int .i64 a0_0, .slice A0_1 l0_1.length c0_1]] (by rfl) rfl rfl mM ?_
    with_reducible refine (laws_toGraph.calls kj21 a0_0 _ _ l0_1 t527 t528 _ ?side1 ?side2 A53.out).mono ?_
    (case side1 => exact cP (Kd.C_below HR0_1.out HB.out))
    (case side2 => exact HC0_1.out)
    rintro e w130 ⟨v529, rfl, ho0, hb⟩
    refine ⟨_, rfl, ?_⟩
    have n0_ := aM (Kd.N_below (by exact uP HO_10.out) hb)
    have n1_ := aM (Kd.R_below (by exact rP HO_13.out) hb)
    have n2_ := aM (Kd.R_below (by exact rP HO_14.out) hb)
    have n3_ := aM (Kd.S_below (by exact tP HO_15.out) hb)
    have n4_ := aM (Kd.R_elder' (by exact rP HO_516001.out) (Kd.R_base ho0) hb)
    have n5_ := aM (Kd.R_lower (Kd.R_new' ho0 (Kd.R_lt (by exact rP HO_516001.out))) (below_size (by exact bB)))
    have n6_ := aM (kB hb BK495.out)
    have n7_ := aM (kB hb BK515.out)
    have n8_ := aM (below_step (by exact bB) hb)
    clear HO_10 HO_13 HO_14 HO_15 HO_516001 BK495 BK515 HB
    have HO_10 := n0_
    have HO_13 := n1_
    have HO_14 := n2_
    have HO_15 := n3_
    have HO_516001 := n4_
    have HO530 := n5_
    have BK495 := n6_
    have BK515 := n7_
    have HB := n8_
    clear n0_ n1_ n2_ n3_ n4_ n5_ n6_ n7_ n8_
    (try clear hb)
    (try clear hb2)
    (try clear hk)
    (try clear hi)
    (try clear ho0)
    obtain ⟨Ao131, co131, eo131⟩ := Kd.R_slice HO530.out
    (first | subst eo131 | (injection eo131 with f1_ f2_ f3_;have f4_ := f1_.symm;have f5_ := f3_.symm;clear f1_ f2_ f3_;subst f4_;subst f5_))
    refine hK.out _ _ ⟨(blk_cell BK515.out 0).trans rfl, (blk_cell BK515.out 1).trans rfl, (blk_cell BK495.out 0).trans rfl, (blk_cell BK495.out 1).trans rfl⟩ (fun hHeld => ?_)
    clear hK K
    refine norm_ (a' := ?_) ?_ ?_
    rotate_left
    ·show Act.put _ (some 69) _ = _
     simp only [Act.put, List.setIfInBounds_toArray, List.set_cons_zero, List.set_cons_succ, i64_w, i32_w]
     rfl
    refine one_ (i := 3) (N := some 70) (pT 4 1) rfl rfl kR (by decide) (fun K hK => ?_)
    refine goes_ Tryd.func12 kR rfl #[.agg #[.int .i64 t511, .slice Ao39 t512.length co39], .agg #[.int .i64 t527, .slice Ao131 t528.length co131]] (by rfl) rfl rfl mM ?_
    with_reducible refine (laws_eqGraph.calls kj21 t511 _ _ t512 t527 _ _ t528 true _ ?side1 ?side2 ?side3 ?side4 A54.out).mono ?_
    (case side1 => exact cP (Kd.R_reads' HO_516001.out).2.2)
    (case side2 => exact (Kd.R_reads' HO_516001.out).2.1)
    (case side3 => exact cP (Kd.R_reads' HO530.out).2.2)
    (case side4 => exact (Kd.R_reads' HO530.out).2.1)
    rintro e w132 ⟨rfl, hb⟩
    refine ⟨_, rfl, ?_⟩
    have n0_ := aM (Kd.N_below (by exact uP HO_10.out) hb)
    have n1_ := aM (Kd.R_below (by exact rP HO_13.out) hb)
    have n2_ := aM (Kd.R_below (by exact rP HO_14.out) hb)
    have n3_ := aM (Kd.S_below (by exact tP HO_15.out) hb)
    have n4_ := aM (Kd.R_below (by exact rP HO_516001.out) hb)
    have n5_ := aM (Kd.R_below (by exact rP HO530.out) hb)
    have n6_ := aM (kB hb BK495.out)
    have n7_ := aM (kB hb BK515.out)
    have n8_ := aM (below_step (by exact bB) hb)
    clear HO_10 HO_13 HO_14 HO_15 HO_516001 HO530 BK495 BK515 HB
    have HO_10 := n0_
    have HO_13 := n1_
    have HO_14 := n2_
    have HO_15 := n3_
    have HO_516001 := n4_
    have HO530 := n5_
    have BK495 := n6_
    have BK515 := n7_
    have HB := n8_
    clear n0_ n1_ n2_ n3_ n4_ n5_ n6_ n7_ n8_
    (try clear hb)
    (try clear hb2)
    (try clear hk)
    (try clear hi)
    refine hK.out _ _ ⟨(blk_cell BK515.out 0).trans rfl, (blk_cell BK515.out 1).trans rfl, (blk_cell BK495.out 0).trans rfl, (blk_cell BK495.out 1).trans rfl⟩ (fun hHeld => ?_)
    clear hK K
    refine norm_ (a' := ?_) ?_ ?_
    rotate_left
    ·show Act.put _ (some 70) _ = _
     simp only [Act.put, List.setIfInBounds_toArray, List.set_cons_zero, List.set_cons_succ, i64_w, i32_w]
     rfl
    refine pure_ (i := 4) (N := some 71) (v := ?_) (a' := ?_) (pT 5 0) rfl rfl kR (fun _ _ _ h => h) (Or.inl ⟨by rfl, ?_⟩) ?_ ?_
    rotate_left
    ·exact gW
    rotate_left
    ·exact aP
    refine done_ kR ?_
    try go_wp2_with (first | ((with_reducible refine gate_callee (f := 17) rfl ?_);refine goesL_ (some 74) rfl rfl Tryd.func17 kR rfl #[.slice A1 l1.length c1] rfl mM ?_;(with_reducible refine (laws_toIntS.calls kj21 _ _ l1 t532 _ ?side1 ?side2 A56.out).mono ?_);(case side1 => exact cP (Kd.C_below HR1.out HB.out));(case side2 => exact HC1.out);rintro e w133 ⟨v533, rfl, ho0, hb⟩;refine ⟨_, rfl, ?_⟩;have n0_ := aM (Kd.N_below (by exact uP HO_10.out) hb);have n1_ := aM (Kd.R_elder' (by exact rP HO_13.out) (Kd.R_base ho0) hb);have n2_ := aM (Kd.R_elder' (by exact rP HO_14.out) (Kd.R_base ho0) hb);have n3_ := aM (Kd.S_below (by exact tP HO_15.out) hb);have n4_ := aM (Kd.R_below (by exact rP HO_516001.out) hb);have n5_ := aM (Kd.R_below (by exact rP HO530.out) hb);have n6_ := aM (Kd.R_lower (Kd.R_new' (Kd.R_new' ho0 (Kd.R_lt (by exact rP HO_13.out))) (Kd.R_lt (by exact rP HO_14.out))) (below_size (by exact bB)));have n7_ := aM (kB hb BK495.out);have n8_ := aM (kB hb BK515.out);have n9_ := aM (below_step (by exact bB) hb);clear HO_10 HO_13 HO_14 HO_15 HO_516001 HO530 BK495 BK515 HB;have HO_10 := n0_;have HO_13 := n1_;have HO_14 := n2_;have HO_15 := n3_;have HO_516001 := n4_;have HO530 := n5_;have HO534 := n6_;have BK495 := n7_;have BK515 := n8_;have HB := n9_;clear n0_ n1_ n2_ n3_ n4_ n5_ n6_ n7_ n8_ n9_;(try clear hb);(try clear ho0);obtain ⟨Ao134, co134, eo134⟩ := Kd.R_slice HO534.out;subst eo134) | ((with_reducible refine gate_callee (f := 19) rfl ?_);refine goesL_ (some 75) rfl rfl Tryd.func19 kR rfl #[.slice Ao43 t516.length co43, .slice Ao134 t532.length co134] rfl mM ?_;(with_reducible refine (laws_eqIntS.calls kj21 _ _ t516 _ _ t532 false _ ?side1 ?side2 ?side3 ?side4 A57.out).mono ?_);(case side1 => exact cP (Kd.R_reads' HO_13.out).2.2);(case side2 => exact (Kd.R_reads' HO_13.out).2.1);(case side3 => exact cP (Kd.R_reads' HO534.out).2.2);(case side4 => exact (Kd.R_reads' HO534.out).2.1);rintro e w' ⟨rfl, ⟨nd, rfl⟩⟩;refine ⟨_, rfl, ?_⟩))
    go_ret
    exact ⟨eW, by exact bB⟩
   subst c58
   rw [if_pos rfl] at H
   replace H := bE H
   obtain ⟨t536, A590, H⟩ := H
   try dsimp only at H
   have A59 := Aside0.mk A590
   clear A590
   replace H := bE H
   obtain ⟨t539, A600, H⟩ := H
   try dsimp only at H
   have A60 := Aside0.mk A600
   clear A600
   by_cases c61 : t539 = true
   rotate_left
   ·replace c61 := Bool.eq_false_iff.mpr c61
    subst c61
    rw [if_neg fF] at H
    obtain rfl := sI H
    try go_wp2
    have n0_ := aM (Kd.N_drew HO_10.out)
    have n1_ := aM (Kd.R_drew HO_13.out)
    have n2_ := aM (Kd.R_drew HO_14.out)
    have n3_ := aM (Kd.S_drew HO_15.out)
    have n4_ := aM (Kd.R_drew HO_516001.out)
    have n5_ := aM (blk_drew BK495.out)
    have n6_ := aM (blk_drew BK515.out)
    have n7_ := aM (below_drew1 HB.out)
    clear HO_10 HO_13 HO_14 HO_15 HO_516001 BK495 BK515 HB
    have HO_10 := n0_
    have HO_13 := n1_
    have HO_14 := n2_
    have HO_15 := n3_
    have HO_516001 := n4_
    have BK495 := n5_
    have BK515 := n6_
    have HB := n7_
    clear n0_ n1_ n2_ n3_ n4_ n5_ n6_ n7_
    refine start_ (n := 5) (S := fun w' => w'.cell? ⟨gb515, 0, none⟩ = some (.int .i64 t511) ∧ w'.cell? ⟨gb515, 1, none⟩ = some (.slice Ao39 t512.length co39) ∧ w'.cell? ⟨gb495, 0, none⟩ = some (.int .i64 a0_0) ∧ w'.cell? ⟨gb495, 1, none⟩ = some (.slice A0_1 l0_1.length c0_1)) (ds := []) (pT 0 5) kR rfl rfl ⟨(blk_cell BK515.out 0).trans rfl, (blk_cell BK515.out 1).trans rfl, (blk_cell BK495.out 0).trans rfl, (blk_cell BK495.out 1).trans rfl⟩ (fun hHeld => ?_)
    generalize wc.drew = w121 at HO_10 HO_13 HO_14 HO_15 HO_516001 BK495 BK515 HB hHeld ⊢
    refine take_ (i := 0) (N := some 67) (v := ?_) (a' := ?_) (pT 1 4) rfl rfl kR (fun _ _ _ h => h) (Or.inl ⟨by rfl, ?_⟩) hHeld ?_ ?_
    rotate_left
    ·rintro w' ⟨s0, s1, s2, s3⟩
     go_simp
     with_reducible rfl
    rotate_left
    ·exact aP
    refine take_ (i := 1) (N := some 68) (v := ?_) (a' := ?_) (pT 2 3) rfl rfl kR (fun _ _ _ h => h) (Or.inl ⟨by rfl, ?_⟩) hHeld ?_ ?_
    rotate_left
    ·rintro w' ⟨s0, s1, s2, s3⟩
     go_simp
     with_reducible rfl
    rotate_left
    ·exact aP
    refine one_ (i := 2) (N := some 69) (pT 3 2) rfl rfl kR (by decide) (fun K hK => ?_)
    refine goes_ Tryd.func9 kR rfl #[.agg #[.int .i64 a0_0, .slice A0_1 l0_1.length c0_1]] (by rfl) rfl rfl mM ?_
    with_reducible refine (laws_toGraph.calls kj21 a0_0 _ _ l0_1 t527 t528 _ ?side1 ?side2 A53.out).mono ?_
    (case side1 => exact cP (Kd.C_below HR0_1.out HB.out))
    (case side2 => exact HC0_1.out)
    rintro e w122 ⟨v529, rfl, ho0, hb⟩
    refine ⟨_, rfl, ?_⟩
    have n0_ := aM (Kd.N_below (by exact uP HO_10.out) hb)
    have n1_ := aM (Kd.R_below (by exact rP HO_13.out) hb)
    have n2_ := aM (Kd.R_below (by exact rP HO_14.out) hb)
    have n3_ := aM (Kd.S_below (by exact tP HO_15.out) hb)
    have n4_ := aM (Kd.R_elder' (by exact rP HO_516001.out) (Kd.R_base ho0) hb)
    have n5_ := aM (Kd.R_lower (Kd.R_new' ho0 (Kd.R_lt (by exact rP HO_516001.out))) (below_size (by exact bB)))
    have n6_ := aM (kB hb BK495.out)
    have n7_ := aM (kB hb BK515.out)
    have n8_ := aM (below_step (by exact bB) hb)
    clear HO_10 HO_13 HO_14 HO_15 HO_516001 BK495 BK515 HB
    have HO_10 := n0_
    have HO_13 := n1_
    have HO_14 := n2_
    have HO_15 := n3_
    have HO_516001 := n4_
    have HO530 := n5_
    have BK495 := n6_
    have BK515 := n7_
    have HB := n8_
    clear n0_ n1_ n2_ n3_ n4_ n5_ n6_ n7_ n8_
    (try clear hb)
    (try clear hb2)
    (try clear hk)
    (try clear hi)
    (try clear ho0)
    obtain ⟨Ao123, co123, eo123⟩ := Kd.R_slice HO530.out
    (first | subst eo123 | (injection eo123 with f1_ f2_ f3_;have f4_ := f1_.symm;have f5_ := f3_.symm;clear f1_ f2_ f3_;subst f4_;subst f5_))
    refine hK.out _ _ ⟨(blk_cell BK515.out 0).trans rfl, (blk_cell BK515.out 1).trans rfl, (blk_cell BK495.out 0).trans rfl, (blk_cell BK495.out 1).trans rfl⟩ (fun hHeld => ?_)
    clear hK K
    refine norm_ (a' := ?_) ?_ ?_
    rotate_left
    ·show Act.put _ (some 69) _ = _
     simp only [Act.put, List.setIfInBounds_toArray, List.set_cons_zero, List.set_cons_succ, i64_w, i32_w]
     rfl
    refine one_ (i := 3) (N := some 70) (pT 4 1) rfl rfl kR (by decide) (fun K hK => ?_)
    refine goes_ Tryd.func12 kR rfl #[.agg #[.int .i64 t511, .slice Ao39 t512.length co39], .agg #[.int .i64 t527, .slice Ao123 t528.length co123]] (by rfl) rfl rfl mM ?_
    with_reducible refine (laws_eqGraph.calls kj21 t511 _ _ t512 t527 _ _ t528 true _ ?side1 ?side2 ?side3 ?side4 A54.out).mono ?_
    (case side1 => exact cP (Kd.R_reads' HO_516001.out).2.2)
    (case side2 => exact (Kd.R_reads' HO_516001.out).2.1)
    (case side3 => exact cP (Kd.R_reads' HO530.out).2.2)
    (case side4 => exact (Kd.R_reads' HO530.out).2.1)
    rintro e w124 ⟨rfl, hb⟩
    refine ⟨_, rfl, ?_⟩
    have n0_ := aM (Kd.N_below (by exact uP HO_10.out) hb)
    have n1_ := aM (Kd.R_below (by exact rP HO_13.out) hb)
    have n2_ := aM (Kd.R_below (by exact rP HO_14.out) hb)
    have n3_ := aM (Kd.S_below (by exact tP HO_15.out) hb)
    have n4_ := aM (Kd.R_below (by exact rP HO_516001.out) hb)
    have n5_ := aM (Kd.R_below (by exact rP HO530.out) hb)
    have n6_ := aM (kB hb BK495.out)
    have n7_ := aM (kB hb BK515.out)
    have n8_ := aM (below_step (by exact bB) hb)
    clear HO_10 HO_13 HO_14 HO_15 HO_516001 HO530 BK495 BK515 HB
    have HO_10 := n0_
    have HO_13 := n1_
    have HO_14 := n2_
    have HO_15 := n3_
    have HO_516001 := n4_
    have HO530 := n5_
    have BK495 := n6_
    have BK515 := n7_
    have HB := n8_
    clear n0_ n1_ n2_ n3_ n4_ n5_ n6_ n7_ n8_
    (try clear hb)
    (try clear hb2)
    (try clear hk)
    (try clear hi)
    refine hK.out _ _ ⟨(blk_cell BK515.out 0).trans rfl, (blk_cell BK515.out 1).trans rfl, (blk_cell BK495.out 0).trans rfl, (blk_cell BK495.out 1).trans rfl⟩ (fun hHeld => ?_)
    clear hK K
    refine norm_ (a' := ?_) ?_ ?_
    rotate_left
    ·show Act.put _ (some 70) _ = _
     simp only [Act.put, List.setIfInBounds_toArray, List.set_cons_zero, List.set_cons_succ, i64_w, i32_w]
     rfl
    refine pure_ (i := 4) (N := some 71) (v := ?_) (a' := ?_) (pT 5 0) rfl rfl kR (fun _ _ _ h => h) (Or.inl ⟨by rfl, ?_⟩) ?_ ?_
    rotate_left
    ·exact gW
    rotate_left
    ·exact aP
    refine done_ kR ?_
    try go_wp2_with (first | ((with_reducible refine gate_callee (f := 17) rfl ?_);refine goesL_ (some 74) rfl rfl Tryd.func17 kR rfl #[.slice A1 l1.length c1] rfl mM ?_;(with_reducible refine (laws_toIntS.calls kj21 _ _ l1 t532 _ ?side1 ?side2 A56.out).mono ?_);(case side1 => exact cP (Kd.C_below HR1.out HB.out));(case side2 => exact HC1.out);rintro e w125 ⟨v533, rfl, ho0, hb⟩;refine ⟨_, rfl, ?_⟩;have n0_ := aM (Kd.N_below (by exact uP HO_10.out) hb);have n1_ := aM (Kd.R_elder' (by exact rP HO_13.out) (Kd.R_base ho0) hb);have n2_ := aM (Kd.R_elder' (by exact rP HO_14.out) (Kd.R_base ho0) hb);have n3_ := aM (Kd.S_below (by exact tP HO_15.out) hb);have n4_ := aM (Kd.R_below (by exact rP HO_516001.out) hb);have n5_ := aM (Kd.R_below (by exact rP HO530.out) hb);have n6_ := aM (Kd.R_lower (Kd.R_new' (Kd.R_new' ho0 (Kd.R_lt (by exact rP HO_13.out))) (Kd.R_lt (by exact rP HO_14.out))) (below_size (by exact bB)));have n7_ := aM (kB hb BK495.out);have n8_ := aM (kB hb BK515.out);have n9_ := aM (below_step (by exact bB) hb);clear HO_10 HO_13 HO_14 HO_15 HO_516001 HO530 BK495 BK515 HB;have HO_10 := n0_;have HO_13 := n1_;have HO_14 := n2_;have HO_15 := n3_;have HO_516001 := n4_;have HO530 := n5_;have HO534 := n6_;have BK495 := n7_;have BK515 := n8_;have HB := n9_;clear n0_ n1_ n2_ n3_ n4_ n5_ n6_ n7_ n8_ n9_;(try clear hb);(try clear ho0);obtain ⟨Ao126, co126, eo126⟩ := Kd.R_slice HO534.out;subst eo126) | ((with_reducible refine gate_callee (f := 19) rfl ?_);refine goesL_ (some 75) rfl rfl Tryd.func19 kR rfl #[.slice Ao43 t516.length co43, .slice Ao126 t532.length co126] rfl mM ?_;(with_reducible refine (laws_eqIntS.calls kj21 _ _ t516 _ _ t532 true _ ?side1 ?side2 ?side3 ?side4 A57.out).mono ?_);(case side1 => exact cP (Kd.R_reads' HO_13.out).2.2);(case side2 => exact (Kd.R_reads' HO_13.out).2.1);(case side3 => exact cP (Kd.R_reads' HO534.out).2.2);(case side4 => exact (Kd.R_reads' HO534.out).2.1);rintro e w' ⟨rfl, ⟨nd, rfl⟩⟩;refine ⟨_, rfl, ?_⟩) | ((with_reducible refine gate_callee (f := 17) rfl ?_);refine goesL_ (some 79) rfl rfl Tryd.func17 kR rfl #[.slice A2 l2.length c2] rfl mM ?_;(with_reducible refine (laws_toIntS.calls kj21 _ _ l2 t536 _ ?side1 ?side2 A59.out).mono ?_);(case side1 => exact cP (Kd.C_below HR2.out (by repeat (first | (with_reducible first | exact HB.out | apply below_alloc | apply pw_below_drewN | apply below_drew1 | refine below_set ?_ GE495.out | refine below_set ?_ GE515.out) | exact HB.out))));(case side2 => exact HC2.out);rintro e w127 ⟨v537, rfl, ho0, hb⟩;refine ⟨_, rfl, ?_⟩;have n0_ := aM (Kd.N_below (by exact uP HO_10.out) hb);have n1_ := aM (Kd.R_elder' (by exact rP HO_13.out) (Kd.R_base ho0) hb);have n2_ := aM (Kd.R_elder' (by exact rP HO_14.out) (Kd.R_base ho0) hb);have n3_ := aM (Kd.S_below (by exact tP HO_15.out) hb);have n4_ := aM (Kd.R_below (by exact rP HO_516001.out) hb);have n5_ := aM (Kd.R_below (by exact rP HO530.out) hb);have n6_ := aM (Kd.R_elder' (by exact rP HO534.out) (Kd.R_base ho0) hb);have n7_ := aM (Kd.R_lower (Kd.R_new' (Kd.R_new' (Kd.R_new' ho0 (Kd.R_lt (by exact rP HO_13.out))) (Kd.R_lt (by exact rP HO_14.out))) (Kd.R_lt (by exact rP HO534.out))) (below_size (by exact bB)));have n8_ := aM (kB hb BK495.out);have n9_ := aM (kB hb BK515.out);have n10_ := aM (below_step (by exact bB) hb);clear HO_10 HO_13 HO_14 HO_15 HO_516001 HO530 HO534 BK495 BK515 HB;have HO_10 := n0_;have HO_13 := n1_;have HO_14 := n2_;have HO_15 := n3_;have HO_516001 := n4_;have HO530 := n5_;have HO534 := n6_;have HO538 := n7_;have BK495 := n8_;have BK515 := n9_;have HB := n10_;clear n0_ n1_ n2_ n3_ n4_ n5_ n6_ n7_ n8_ n9_ n10_;(try clear hb);(try clear ho0);obtain ⟨Ao128, co128, eo128⟩ := Kd.R_slice HO538.out;subst eo128) | ((with_reducible refine gate_callee (f := 19) rfl ?_);refine goesL_ (some 80) rfl rfl Tryd.func19 kR rfl #[.slice Ao44 t519.length co44, .slice Ao128 t536.length co128] rfl mM ?_;(with_reducible refine (laws_eqIntS.calls kj21 _ _ t519 _ _ t536 false _ ?side1 ?side2 ?side3 ?side4 A60.out).mono ?_);(case side1 => exact cP (Kd.R_reads' HO_14.out).2.2);(case side2 => exact (Kd.R_reads' HO_14.out).2.1);(case side3 => exact cP (Kd.R_reads' HO538.out).2.2);(case side4 => exact (Kd.R_reads' HO538.out).2.1);rintro e w' ⟨rfl, ⟨nd, rfl⟩⟩;refine ⟨_, rfl, ?_⟩))
    go_ret
    exact ⟨eW, by exact bB⟩
   subst c61
   rw [if_pos rfl] at H
   replace H := bE H
   obtain ⟨⟨t540, t541⟩, A620, H⟩ := H
   try dsimp only at H
   have A62 := Aside0.mk A620
   clear A620
   replace H := bE H
   obtain ⟨⟨t542, t543⟩, A630, H⟩ := H
   try dsimp only at H
   have A63 := Aside0.mk A630
   clear A630
   replace H := bE H
   obtain ⟨⟨t544, t545⟩, A640, H⟩ := H
   try dsimp only at H
   have A64 := Aside0.mk A640
   clear A640
   have HC65 := Aside0.mk H
   clear H
   try go_wp2
   have n0_ := aM (Kd.N_drew HO_10.out)
   have n1_ := aM (Kd.R_drew HO_13.out)
   have n2_ := aM (Kd.R_drew HO_14.out)
   have n3_ := aM (Kd.S_drew HO_15.out)
   have n4_ := aM (Kd.R_drew HO_516001.out)
   have n5_ := aM (blk_drew BK495.out)
   have n6_ := aM (blk_drew BK515.out)
   have n7_ := aM (below_drew1 HB.out)
   clear HO_10 HO_13 HO_14 HO_15 HO_516001 BK495 BK515 HB
   have HO_10 := n0_
   have HO_13 := n1_
   have HO_14 := n2_
   have HO_15 := n3_
   have HO_516001 := n4_
   have BK495 := n5_
   have BK515 := n6_
   have HB := n7_
   clear n0_ n1_ n2_ n3_ n4_ n5_ n6_ n7_
   refine start_ (n := 5) (S := fun w' => w'.cell? ⟨gb515, 0, none⟩ = some (.int .i64 t511) ∧ w'.cell? ⟨gb515, 1, none⟩ = some (.slice Ao39 t512.length co39) ∧ w'.cell? ⟨gb495, 0, none⟩ = some (.int .i64 a0_0) ∧ w'.cell? ⟨gb495, 1, none⟩ = some (.slice A0_1 l0_1.length c0_1)) (ds := []) (pT 0 5) kR rfl rfl ⟨(blk_cell BK515.out 0).trans rfl, (blk_cell BK515.out 1).trans rfl, (blk_cell BK495.out 0).trans rfl, (blk_cell BK495.out 1).trans rfl⟩ (fun hHeld => ?_)
   generalize wc.drew = w66 at HO_10 HO_13 HO_14 HO_15 HO_516001 BK495 BK515 HB hHeld ⊢
   refine take_ (i := 0) (N := some 67) (v := ?_) (a' := ?_) (pT 1 4) rfl rfl kR (fun _ _ _ h => h) (Or.inl ⟨by rfl, ?_⟩) hHeld ?_ ?_
   rotate_left
   ·rintro w' ⟨s0, s1, s2, s3⟩
    go_simp
    with_reducible rfl
   rotate_left
   ·exact aP
   refine take_ (i := 1) (N := some 68) (v := ?_) (a' := ?_) (pT 2 3) rfl rfl kR (fun _ _ _ h => h) (Or.inl ⟨by rfl, ?_⟩) hHeld ?_ ?_
   rotate_left
   ·rintro w' ⟨s0, s1, s2, s3⟩
    go_simp
    with_reducible rfl
   rotate_left
   ·exact aP
   refine one_ (i := 2) (N := some 69) (pT 3 2) rfl rfl kR (by decide) (fun K hK => ?_)
   refine goes_ Tryd.func9 kR rfl #[.agg #[.int .i64 a0_0, .slice A0_1 l0_1.length c0_1]] (by rfl) rfl rfl mM ?_
   with_reducible refine (laws_toGraph.calls kj21 a0_0 _ _ l0_1 t527 t528 _ ?side1 ?side2 A53.out).mono ?_
   (case side1 => exact cP (Kd.C_below HR0_1.out HB.out))
   (case side2 => exact HC0_1.out)
   rintro e w67 ⟨v529, rfl, ho0, hb⟩
   refine ⟨_, rfl, ?_⟩
   have n0_ := aM (Kd.N_below (by exact uP HO_10.out) hb)
   have n1_ := aM (Kd.R_below (by exact rP HO_13.out) hb)
   have n2_ := aM (Kd.R_below (by exact rP HO_14.out) hb)
   have n3_ := aM (Kd.S_below (by exact tP HO_15.out) hb)
   have n4_ := aM (Kd.R_elder' (by exact rP HO_516001.out) (Kd.R_base ho0) hb)
   have n5_ := aM (Kd.R_lower (Kd.R_new' ho0 (Kd.R_lt (by exact rP HO_516001.out))) (below_size (by exact bB)))
   have n6_ := aM (kB hb BK495.out)
   have n7_ := aM (kB hb BK515.out)
   have n8_ := aM (below_step (by exact bB) hb)
   clear HO_10 HO_13 HO_14 HO_15 HO_516001 BK495 BK515 HB
   have HO_10 := n0_
   have HO_13 := n1_
   have HO_14 := n2_
   have HO_15 := n3_
   have HO_516001 := n4_
   have HO530 := n5_
   have BK495 := n6_
   have BK515 := n7_
   have HB := n8_
   clear n0_ n1_ n2_ n3_ n4_ n5_ n6_ n7_ n8_
   (try clear hb)
   (try clear hb2)
   (try clear hk)
   (try clear hi)
   (try clear ho0)
   obtain ⟨Ao68, co68, eo68⟩ := Kd.R_slice HO530.out
   (first | subst eo68 | (injection eo68 with f1_ f2_ f3_;have f4_ := f1_.symm;have f5_ := f3_.symm;clear f1_ f2_ f3_;subst f4_;subst f5_))
   refine hK.out _ _ ⟨(blk_cell BK515.out 0).trans rfl, (blk_cell BK515.out 1).trans rfl, (blk_cell BK495.out 0).trans rfl, (blk_cell BK495.out 1).trans rfl⟩ (fun hHeld => ?_)
   clear hK K
   refine norm_ (a' := ?_) ?_ ?_
   rotate_left
   ·show Act.put _ (some 69) _ = _
    simp only [Act.put, List.setIfInBounds_toArray, List.set_cons_zero, List.set_cons_succ, i64_w, i32_w]
    rfl
   refine one_ (i := 3) (N := some 70) (pT 4 1) rfl rfl kR (by decide) (fun K hK => ?_)
   refine goes_ Tryd.func12 kR rfl #[.agg #[.int .i64 t511, .slice Ao39 t512.length co39], .agg #[.int .i64 t527, .slice Ao68 t528.length co68]] (by rfl) rfl rfl mM ?_
   with_reducible refine (laws_eqGraph.calls kj21 t511 _ _ t512 t527 _ _ t528 true _ ?side1 ?side2 ?side3 ?side4 A54.out).mono ?_
   (case side1 => exact cP (Kd.R_reads' HO_516001.out).2.2)
   (case side2 => exact (Kd.R_reads' HO_516001.out).2.1)
   (case side3 => exact cP (Kd.R_reads' HO530.out).2.2)
   (case side4 => exact (Kd.R_reads' HO530.out).2.1)
   rintro e w69 ⟨rfl, hb⟩
   refine ⟨_, rfl, ?_⟩
   have n0_ := aM (Kd.N_below (by exact uP HO_10.out) hb)
   have n1_ := aM (Kd.R_below (by exact rP HO_13.out) hb)
   have n2_ := aM (Kd.R_below (by exact rP HO_14.out) hb)
   have n3_ := aM (Kd.S_below (by exact tP HO_15.out) hb)
   have n4_ := aM (Kd.R_below (by exact rP HO_516001.out) hb)
   have n5_ := aM (Kd.R_below (by exact rP HO530.out) hb)
   have n6_ := aM (kB hb BK495.out)
   have n7_ := aM (kB hb BK515.out)
   have n8_ := aM (below_step (by exact bB) hb)
   clear HO_10 HO_13 HO_14 HO_15 HO_516001 HO530 BK495 BK515 HB
   have HO_10 := n0_
   have HO_13 := n1_
   have HO_14 := n2_
   have HO_15 := n3_
   have HO_516001 := n4_
   have HO530 := n5_
   have BK495 := n6_
   have BK515 := n7_
   have HB := n8_
   clear n0_ n1_ n2_ n3_ n4_ n5_ n6_ n7_ n8_
   (try clear hb)
   (try clear hb2)
   (try clear hk)
   (try clear hi)
   refine hK.out _ _ ⟨(blk_cell BK515.out 0).trans rfl, (blk_cell BK515.out 1).trans rfl, (blk_cell BK495.out 0).trans rfl, (blk_cell BK495.out 1).trans rfl⟩ (fun hHeld => ?_)
   clear hK K
   refine norm_ (a' := ?_) ?_ ?_
   rotate_left
   ·show Act.put _ (some 70) _ = _
    simp only [Act.put, List.setIfInBounds_toArray, List.set_cons_zero, List.set_cons_succ, i64_w, i32_w]
    rfl
   refine pure_ (i := 4) (N := some 71) (v := ?_) (a' := ?_) (pT 5 0) rfl rfl kR (fun _ _ _ h => h) (Or.inl ⟨by rfl, ?_⟩) ?_ ?_
   rotate_left
   ·exact gW
   rotate_left
   ·exact aP
   refine done_ kR ?_
   go_upto_region 26 with (first | ((with_reducible refine gate_callee (f := 17) rfl ?_);refine goesL_ (some 74) rfl rfl Tryd.func17 kR rfl #[.slice A1 l1.length c1] rfl mM ?_;(with_reducible refine (laws_toIntS.calls kj21 _ _ l1 t532 _ ?side1 ?side2 A56.out).mono ?_);(case side1 => exact cP (Kd.C_below HR1.out HB.out));(case side2 => exact HC1.out);rintro e w70 ⟨v533, rfl, ho0, hb⟩;refine ⟨_, rfl, ?_⟩;have n0_ := aM (Kd.N_below (by exact uP HO_10.out) hb);have n1_ := aM (Kd.R_elder' (by exact rP HO_13.out) (Kd.R_base ho0) hb);have n2_ := aM (Kd.R_elder' (by exact rP HO_14.out) (Kd.R_base ho0) hb);have n3_ := aM (Kd.S_below (by exact tP HO_15.out) hb);have n4_ := aM (Kd.R_below (by exact rP HO_516001.out) hb);have n5_ := aM (Kd.R_below (by exact rP HO530.out) hb);have n6_ := aM (Kd.R_lower (Kd.R_new' (Kd.R_new' ho0 (Kd.R_lt (by exact rP HO_13.out))) (Kd.R_lt (by exact rP HO_14.out))) (below_size (by exact bB)));have n7_ := aM (kB hb BK495.out);have n8_ := aM (kB hb BK515.out);have n9_ := aM (below_step (by exact bB) hb);clear HO_10 HO_13 HO_14 HO_15 HO_516001 HO530 BK495 BK515 HB;have HO_10 := n0_;have HO_13 := n1_;have HO_14 := n2_;have HO_15 := n3_;have HO_516001 := n4_;have HO530 := n5_;have HO534 := n6_;have BK495 := n7_;have BK515 := n8_;have HB := n9_;clear n0_ n1_ n2_ n3_ n4_ n5_ n6_ n7_ n8_ n9_;(try clear hb);(try clear ho0);obtain ⟨Ao71, co71, eo71⟩ := Kd.R_slice HO534.out;subst eo71) | ((with_reducible refine gate_callee (f := 19) rfl ?_);refine goesL_ (some 75) rfl rfl Tryd.func19 kR rfl #[.slice Ao43 t516.length co43, .slice Ao71 t532.length co71] rfl mM ?_;(with_reducible refine (laws_eqIntS.calls kj21 _ _ t516 _ _ t532 true _ ?side1 ?side2 ?side3 ?side4 A57.out).mono ?_);(case side1 => exact cP (Kd.R_reads' HO_13.out).2.2);(case side2 => exact (Kd.R_reads' HO_13.out).2.1);(case side3 => exact cP (Kd.R_reads' HO534.out).2.2);(case side4 => exact (Kd.R_reads' HO534.out).2.1);rintro e w' ⟨rfl, ⟨nd, rfl⟩⟩;refine ⟨_, rfl, ?_⟩) | ((with_reducible refine gate_callee (f := 17) rfl ?_);refine goesL_ (some 79) rfl rfl Tryd.func17 kR rfl #[.slice A2 l2.length c2] rfl mM ?_;(with_reducible refine (laws_toIntS.calls kj21 _ _ l2 t536 _ ?side1 ?side2 A59.out).mono ?_);(case side1 => exact cP (Kd.C_below HR2.out (by repeat (first | (with_reducible first | exact HB.out | apply below_alloc | apply pw_below_drewN | apply below_drew1 | refine below_set ?_ GE495.out | refine below_set ?_ GE515.out) | exact HB.out))));(case side2 => exact HC2.out);rintro e w72 ⟨v537, rfl, ho0, hb⟩;refine ⟨_, rfl, ?_⟩;have n0_ := aM (Kd.N_below (by exact uP HO_10.out) hb);have n1_ := aM (Kd.R_elder' (by exact rP HO_13.out) (Kd.R_base ho0) hb);have n2_ := aM (Kd.R_elder' (by exact rP HO_14.out) (Kd.R_base ho0) hb);have n3_ := aM (Kd.S_below (by exact tP HO_15.out) hb);have n4_ := aM (Kd.R_below (by exact rP HO_516001.out) hb);have n5_ := aM (Kd.R_below (by exact rP HO530.out) hb);have n6_ := aM (Kd.R_elder' (by exact rP HO534.out) (Kd.R_base ho0) hb);have n7_ := aM (Kd.R_lower (Kd.R_new' (Kd.R_new' (Kd.R_new' ho0 (Kd.R_lt (by exact rP HO_13.out))) (Kd.R_lt (by exact rP HO_14.out))) (Kd.R_lt (by exact rP HO534.out))) (below_size (by exact bB)));have n8_ := aM (kB hb BK495.out);have n9_ := aM (kB hb BK515.out);have n10_ := aM (below_step (by exact bB) hb);clear HO_10 HO_13 HO_14 HO_15 HO_516001 HO530 HO534 BK495 BK515 HB;have HO_10 := n0_;have HO_13 := n1_;have HO_14 := n2_;have HO_15 := n3_;have HO_516001 := n4_;have HO530 := n5_;have HO534 := n6_;have HO538 := n7_;have BK495 := n8_;have BK515 := n9_;have HB := n10_;clear n0_ n1_ n2_ n3_ n4_ n5_ n6_ n7_ n8_ n9_ n10_;(try clear hb);(try clear ho0);obtain ⟨Ao73, co73, eo73⟩ := Kd.R_slice HO538.out;subst eo73) | ((with_reducible refine gate_callee (f := 19) rfl ?_);refine goesL_ (some 80) rfl rfl Tryd.func19 kR rfl #[.slice Ao44 t519.length co44, .slice Ao73 t536.length co73] rfl mM ?_;(with_reducible refine (laws_eqIntS.calls kj21 _ _ t519 _ _ t536 true _ ?side1 ?side2 ?side3 ?side4 A60.out).mono ?_);(case side1 => exact cP (Kd.R_reads' HO_14.out).2.2);(case side2 => exact (Kd.R_reads' HO_14.out).2.1);(case side3 => exact cP (Kd.R_reads' HO538.out).2.2);(case side4 => exact (Kd.R_reads' HO538.out).2.1);rintro e w' ⟨rfl, ⟨nd, rfl⟩⟩;refine ⟨_, rfl, ?_⟩;have hnb74 := NB515_495.out;have hnc74 := NB495_515.out;have hcz75_0 := bC0 BK515.out;have hcz75_1 := bC1 BK515.out;have hfz75_0 := blk_frozen BK515.out 0;have hfz75_1 := blk_frozen BK515.out 1) | ((with_reducible refine gate_callee (f := 13) rfl ?_);refine goesL_ (some 84) rfl rfl Tryd.func13 kR rfl #[.agg #[.int .i64 t511, .slice Ao39 t512.length co39], .int .i64 1] rfl mM ?_;(with_reducible refine (laws_markGraph.calls t511 (fun k_ => some k_ = (.slice Ao39 t512.length co39 : Value).ownBlock) (.slice Ao39 t512.length co39) t512 1 t540 t541 w _ ?side1 ?side2 A62.out).mono ?_);(case side1 => exact bB);(case side2 => exact Kd.R_tight rfl HO_516001.out);rintro e w76 ⟨rfl, hy0, hb, hkp⟩;refine ⟨_, rfl, ?_⟩;have n0_ := aM (Kd.N_mono (ok' := fun k_ => ¬ P9_ k_ ∧ some k_ ≠ (.slice Ao43 t516.length co43 : Value).ownBlock ∧ some k_ ≠ (.slice Ao44 t519.length co44 : Value).ownBlock) (Kd.N_keptB HO_10.out hkp (fun k_ hk_ hs_ => hk_.2.1 hs_)) (fun k_ hk_ => ⟨hk_.1.1, hk_.1.2.2⟩));have n1_ := aM (Kd.R_mono (ok' := fun k_ => ¬ P9_ k_ ∧ some k_ ≠ (.slice Ao44 t519.length co44 : Value).ownBlock) (Kd.R_keptB ((Kd.R_apart' HO_13.out (Kd.R_typed HO_516001.out) (by decide))) hkp (fun k_ hk_ hs_ => hk_.2 hs_)) (fun k_ hk_ => hk_.1.1.1.1));have n2_ := aM (Kd.R_mono (ok' := fun k_ => ¬ P9_ k_ ∧ some k_ ≠ (.slice Ao43 t516.length co43 : Value).ownBlock) (Kd.R_keptB ((Kd.R_apart' HO_14.out (Kd.R_typed HO_516001.out) (by decide))) hkp (fun k_ hk_ hs_ => hk_.2 hs_)) (fun k_ hk_ => hk_.1.1.1.1));have n3_ := aM (Kd.S_mono (ok' := fun k_ => P9_ k_) (Kd.S_keptB (Kd.S_apart' HO_15.out (Kd.R_typed HO_516001.out) (by decide)) hkp (fun k_ hk_ hs_ => hk_.2 hs_)) (fun k_ hk_ => hk_.1.1));have n4_ := aM (Kd.R_reok rfl hy0 (fun k_ e_ => HO_516001.out.1 k_ e_));have n5_ := aM (blk_kept (by exact kP BK495.out) hkp (fun hs_ => (fun e_ => (Kd.R_ne HO_516001.out BK495.out (by decide)) e_) hs_));have n6_ := aM (blk_kept (by exact kP BK515.out) hkp (fun hs_ => (fun e_ => (Kd.R_ne HO_516001.out BK515.out (by decide)) e_) hs_));have n7_ := aM (Kd.R_mono (ok' := fun k_ => some k_ ≠ (.slice Ao39 t512.length co39 : Value).ownBlock) (Kd.R_keptB (HO530.out) hkp (fun k_ hk_ hs_ => (hk_.2) hs_)) (fun k_ hk_ => hk_.1.2));have n8_ := aM (Kd.R_mono (ok' := fun k_ => some k_ ≠ (.slice Ao43 t516.length co43 : Value).ownBlock ∧ some k_ ≠ (.slice Ao44 t519.length co44 : Value).ownBlock ∧ some k_ ≠ (.slice Ao73 t536.length co73 : Value).ownBlock) (Kd.R_keptB ((Kd.R_apart' HO534.out (Kd.R_typed HO_516001.out) (by decide))) hkp (fun k_ hk_ hs_ => (hk_.2) hs_)) (fun k_ hk_ => ⟨hk_.1.1.1.1.2, hk_.1.1.1.2, hk_.1.1.2⟩));have n9_ := aM (Kd.R_mono (ok' := fun k_ => some k_ ≠ (.slice Ao43 t516.length co43 : Value).ownBlock ∧ some k_ ≠ (.slice Ao44 t519.length co44 : Value).ownBlock ∧ some k_ ≠ (.slice Ao71 t532.length co71 : Value).ownBlock) (Kd.R_keptB ((Kd.R_apart' HO538.out (Kd.R_typed HO_516001.out) (by decide))) hkp (fun k_ hk_ hs_ => (hk_.2) hs_)) (fun k_ hk_ => ⟨hk_.1.1.1.1.2, hk_.1.1.1.2, hk_.1.1.2⟩));have n10_ := aM (hb);clear HO_10 HO_13 HO_14 HO_15 HO_516001 BK495 BK515 HO530 HO534 HO538 HB;have HO_10 := n0_;have HO_13 := n1_;have HO_14 := n2_;have HO_15 := n3_;have HO_516001 := n4_;have BK495 := n5_;have BK515 := n6_;have HO530 := n7_;have HO534 := n8_;have HO538 := n9_;have HB := n10_;clear n0_ n1_ n2_ n3_ n4_ n5_ n6_ n7_ n8_ n9_ n10_;(try clear hb);(try clear hkp);(try clear hy0)) | ((with_reducible refine gate_callee (f := 22) rfl ?_);refine goesL_ (some 87) rfl rfl Tryd.func22 kR rfl #[.slice Ao43 t516.length co43, .int .i64 t540] rfl mM ?_;(with_reducible refine (laws_markIntS.calls kj21 (fun k_ => some k_ = (.slice Ao43 t516.length co43 : Value).ownBlock) (.slice Ao43 t516.length co43) t516 t540 t542 t543 w _ ?side1 ?side2 A63.out).mono ?_);(case side1 => exact bB);(case side2 => exact Kd.R_tight rfl HO_13.out);rintro e w77 ⟨rfl, hy0, hb, hkp⟩;refine ⟨_, rfl, ?_⟩;have n0_ := aM (Kd.N_mono (ok' := fun k_ => ¬ P9_ k_ ∧ some k_ ≠ (.slice Ao44 t519.length co44 : Value).ownBlock) (Kd.N_keptB HO_10.out hkp (fun k_ hk_ hs_ => hk_.2.1 hs_)) (fun k_ hk_ => ⟨hk_.1.1, hk_.1.2.2⟩));have n1_ := aM (Kd.R_reok rfl hy0 (fun k_ e_ => HO_13.out.1 k_ e_));have n2_ := aM (Kd.R_mono (ok' := fun k_ => ¬ P9_ k_ ∧ some k_ ≠ (.slice Ao43 t516.length co43 : Value).ownBlock) (Kd.R_keptB HO_14.out hkp (fun k_ hk_ hs_ => hk_.2 hs_)) (fun k_ hk_ => hk_.1));have n3_ := aM (Kd.S_mono (ok' := fun k_ => P9_ k_) (Kd.S_keptB HO_15.out hkp (fun k_ hk_ hs_ => (HO_13.out.1 k_ hs_.symm).1 hk_)) (fun k_ hk_ => hk_.1));have n4_ := aM (Kd.R_mono (ok' := fun k_ => some k_ ≠ (.slice Ao68 t528.length co68 : Value).ownBlock) (Kd.R_keptB ((Kd.R_apart' HO_516001.out (Kd.R_typed HO_13.out) (by decide))) hkp (fun k_ hk_ hs_ => (hk_.2) hs_)) (fun k_ hk_ => hk_.1.1.2));have n5_ := aM (blk_kept (by exact kP BK495.out) hkp (fun hs_ => (fun e_ => (Kd.R_ne HO_13.out BK495.out (by decide)) e_) hs_));have n6_ := aM (blk_kept (by exact kP BK515.out) hkp (fun hs_ => (fun e_ => (Kd.R_ne HO_13.out BK515.out (by decide)) e_) hs_));have n7_ := aM (Kd.R_mono (ok' := fun k_ => some k_ ≠ (.slice Ao39 t512.length co39 : Value).ownBlock) (Kd.R_keptB ((Kd.R_apart' HO530.out (Kd.R_typed HO_13.out) (by decide))) hkp (fun k_ hk_ hs_ => (hk_.2) hs_)) (fun k_ hk_ => hk_.1.1));have n8_ := aM (Kd.R_mono (ok' := fun k_ => some k_ ≠ (.slice Ao43 t516.length co43 : Value).ownBlock ∧ some k_ ≠ (.slice Ao44 t519.length co44 : Value).ownBlock ∧ some k_ ≠ (.slice Ao73 t536.length co73 : Value).ownBlock) (Kd.R_keptB (HO534.out) hkp (fun k_ hk_ hs_ => (hk_.1) hs_)) (fun k_ hk_ => ⟨hk_.1.1, hk_.1.2.1, hk_.1.2.2⟩));have n9_ := aM (Kd.R_mono (ok' := fun k_ => some k_ ≠ (.slice Ao43 t516.length co43 : Value).ownBlock ∧ some k_ ≠ (.slice Ao44 t519.length co44 : Value).ownBlock ∧ some k_ ≠ (.slice Ao71 t532.length co71 : Value).ownBlock) (Kd.R_keptB (HO538.out) hkp (fun k_ hk_ hs_ => (hk_.1) hs_)) (fun k_ hk_ => ⟨hk_.1.1, hk_.1.2.1, hk_.1.2.2⟩));have n10_ := aM (hb);clear HO_10 HO_13 HO_14 HO_15 HO_516001 BK495 BK515 HO530 HO534 HO538 HB;have HO_10 := n0_;have HO_13 := n1_;have HO_14 := n2_;have HO_15 := n3_;have HO_516001 := n4_;have BK495 := n5_;have BK515 := n6_;have HO530 := n7_;have HO534 := n8_;have HO538 := n9_;have HB := n10_;clear n0_ n1_ n2_ n3_ n4_ n5_ n6_ n7_ n8_ n9_ n10_;(try clear hb);(try clear hkp);(try clear hy0)) | ((with_reducible refine gate_callee (f := 22) rfl ?_);refine goesL_ (some 90) rfl rfl Tryd.func22 kR rfl #[.slice Ao44 t519.length co44, .int .i64 t542] rfl mM ?_;(with_reducible refine (laws_markIntS.calls kj21 (fun k_ => some k_ = (.slice Ao44 t519.length co44 : Value).ownBlock) (.slice Ao44 t519.length co44) t519 t542 t544 t545 w _ ?side1 ?side2 A64.out).mono ?_);(case side1 => exact bB);(case side2 => exact Kd.R_tight rfl HO_14.out);rintro e w78 ⟨rfl, hy0, hb, hkp⟩;refine ⟨_, rfl, ?_⟩;have n0_ := aM (Kd.N_mono (ok' := fun k_ => ¬ P9_ k_) (Kd.N_keptB HO_10.out hkp (fun k_ hk_ hs_ => hk_.2 hs_)) (fun k_ hk_ => hk_.1.1));have n1_ := aM (Kd.R_mono (ok' := fun k_ => ¬ P9_ k_ ∧ some k_ ≠ (.slice Ao44 t519.length co44 : Value).ownBlock) (Kd.R_keptB HO_13.out hkp (fun k_ hk_ hs_ => hk_.2 hs_)) (fun k_ hk_ => hk_.1));have n2_ := aM (Kd.R_reok rfl hy0 (fun k_ e_ => HO_14.out.1 k_ e_));have n3_ := aM (Kd.S_mono (ok' := fun k_ => P9_ k_) (Kd.S_keptB HO_15.out hkp (fun k_ hk_ hs_ => (HO_14.out.1 k_ hs_.symm).1 hk_)) (fun k_ hk_ => hk_.1));have n4_ := aM (Kd.R_mono (ok' := fun k_ => some k_ ≠ (.slice Ao68 t528.length co68 : Value).ownBlock) (Kd.R_keptB ((Kd.R_apart' HO_516001.out (Kd.R_typed HO_14.out) (by decide))) hkp (fun k_ hk_ hs_ => (hk_.2) hs_)) (fun k_ hk_ => hk_.1.1));have n5_ := aM (blk_kept (by exact kP BK495.out) hkp (fun hs_ => (fun e_ => (Kd.R_ne HO_14.out BK495.out (by decide)) e_) hs_));have n6_ := aM (blk_kept (by exact kP BK515.out) hkp (fun hs_ => (fun e_ => (Kd.R_ne HO_14.out BK515.out (by decide)) e_) hs_));have n7_ := aM (Kd.R_mono (ok' := fun k_ => some k_ ≠ (.slice Ao39 t512.length co39 : Value).ownBlock) (Kd.R_keptB ((Kd.R_apart' HO530.out (Kd.R_typed HO_14.out) (by decide))) hkp (fun k_ hk_ hs_ => (hk_.2) hs_)) (fun k_ hk_ => hk_.1.1));have n8_ := aM (Kd.R_mono (ok' := fun k_ => some k_ ≠ (.slice Ao43 t516.length co43 : Value).ownBlock ∧ some k_ ≠ (.slice Ao44 t519.length co44 : Value).ownBlock ∧ some k_ ≠ (.slice Ao73 t536.length co73 : Value).ownBlock) (Kd.R_keptB (HO534.out) hkp (fun k_ hk_ hs_ => (hk_.2.1) hs_)) (fun k_ hk_ => ⟨hk_.1.1, hk_.1.2.1, hk_.1.2.2⟩));have n9_ := aM (Kd.R_mono (ok' := fun k_ => some k_ ≠ (.slice Ao43 t516.length co43 : Value).ownBlock ∧ some k_ ≠ (.slice Ao44 t519.length co44 : Value).ownBlock ∧ some k_ ≠ (.slice Ao71 t532.length co71 : Value).ownBlock) (Kd.R_keptB (HO538.out) hkp (fun k_ hk_ hs_ => (hk_.2.1) hs_)) (fun k_ hk_ => ⟨hk_.1.1, hk_.1.2.1, hk_.1.2.2⟩));have n10_ := aM (hb);clear HO_10 HO_13 HO_14 HO_15 HO_516001 BK495 BK515 HO530 HO534 HO538 HB;have HO_10 := n0_;have HO_13 := n1_;have HO_14 := n2_;have HO_15 := n3_;have HO_516001 := n4_;have BK495 := n5_;have BK515 := n6_;have HO530 := n7_;have HO534 := n8_;have HO538 := n9_;have HB := n10_;clear n0_ n1_ n2_ n3_ n4_ n5_ n6_ n7_ n8_ n9_ n10_;(try clear hb);(try clear hkp);(try clear hy0)))
   (try simp only [Act.put, List.setIfInBounds_toArray, List.set_cons_zero, List.set_cons_succ])
   go_cut [103] (fun v103 wc => ∃ (P9_ : Nat → Prop) (kq : Nat) (x103_64 : Bool), v103 = .bool x103_64 ∧ Aside0 (laws_FnExactPlayAttacks.j1 kq l1 l2 a3 t507 t510 t522 x103_64 a0_0 l0_1 = some r) ∧ Aside0 (kq ≤ kj21) ∧ Aside0 (Kd.N (Kd.slice 3 (Kd.int .i64)) 36 wc w.heap.size (fun k_ => ¬ P9_ k_) v508 t507) ∧ Aside0 (Kd.S (Kd.slice 3 (Kd.int .i64)) 36 wc w.heap.size (fun k_ => P9_ k_) v523 t522) ∧ Aside0 (Kd.R k78 78 wc w.heap.size (fun _ => True) (.slice Ao39 t512.length co39) t541) ∧ Aside0 (wc.heap[gb495]? = some (.cells #[.int .i64 a0_0, (.slice A0_1 l0_1.length c0_1)] 24 (0, 0))) ∧ Aside0 (wc.heap[gb515]? = some (.cells #[.int .i64 t511, (.slice Ao39 t512.length co39)] 29 (0, 0))) ∧ Aside0 (Below w.heap.size w wc))
   case first =>
    have H := HC65.out
    clear HC65
    by_cases c79 : t544 < 0
    ·rw [if_pos c79] at H
     have c79b0 : decide (t544 < 0) = true := decide_eq_true c79
     clear c79
     (first | rw [c79b0] | (simp only [i64_w, i32_w];rw [c79b0]) | skip)
     have H' := Aside0.mk H
     clear H
     go_wp2
     go_meet
     case rel => exact ⟨P9_, _, (true), eF, H', ⟨by have := HJ21.out;first | omega | exact Nat.le_refl _⟩, ⟨by (with_reducible repeat (first | apply Kd.R_alloc | apply Kd.S_alloc | apply Kd.N_alloc | apply Kd.R_drewN | apply Kd.S_drewN | apply Kd.N_drewN | apply Kd.R_drew | apply Kd.S_drew | apply Kd.N_drew));exact HO_10.out⟩, ⟨by (with_reducible repeat (first | apply Kd.R_alloc | apply Kd.S_alloc | apply Kd.N_alloc | apply Kd.R_drewN | apply Kd.S_drewN | apply Kd.N_drewN | apply Kd.R_drew | apply Kd.S_drew | apply Kd.N_drew));exact HO_15.out⟩, ⟨by (with_reducible repeat (first | apply Kd.R_alloc | apply Kd.S_alloc | apply Kd.N_alloc | apply Kd.R_drewN | apply Kd.S_drewN | apply Kd.N_drewN | apply Kd.R_drew | apply Kd.S_drew | apply Kd.N_drew));exact Kd.R_mono HO_516001.out (fun _ hk => trivial)⟩, ⟨by exact kP BK495.out⟩, ⟨by exact kP BK515.out⟩, ⟨by exact bB⟩⟩
    rw [if_neg c79] at H
    have c79b0 : decide (t544 < 0) = false := decide_eq_false c79
    clear c79
    (first | rw [c79b0] | (simp only [i64_w, i32_w];rw [c79b0]) | skip)
    replace H := bE H
    obtain ⟨t546, A800, H⟩ := H
    try dsimp only at H
    have A80 := Aside0.mk A800
    clear A800
    by_cases c81 : t546 = true
    ·subst c81
     rw [if_pos rfl] at H
     have H' := Aside0.mk H
     clear H
     obtain ⟨Ao82, co82, eo82⟩ := Kd.S_slice HO_15.out
     subst eo82
     obtain ⟨Ao83, co83, eo83⟩ := Kd.N_slice HO_10.out
     subst eo83
     go_wp2_with (first | (go_at_call 11;(with_reducible refine (laws_eqIntSS.calls kj21 _ _ t522 _ _ t507 true _ ?side1 ?side2 ?side3 ?side4 A80.out).mono ?_);(case side1 => exact cP (Kd.S_reads' HO_15.out).2.2);(case side2 => exact (Kd.S_reads' HO_15.out).2.1);(case side3 => exact cP (Kd.N_reads' HO_10.out).2.2);(case side4 => exact (Kd.N_reads' HO_10.out).2.1);rintro e w' ⟨rfl, ⟨nd, rfl⟩⟩))
     go_meet
     case rel => exact ⟨P9_, _, ((t525 != t510)), eF, H', ⟨by have := HJ21.out;first | omega | exact Nat.le_refl _⟩, ⟨by (with_reducible repeat (first | apply Kd.R_alloc | apply Kd.S_alloc | apply Kd.N_alloc | apply Kd.R_drewN | apply Kd.S_drewN | apply Kd.N_drewN | apply Kd.R_drew | apply Kd.S_drew | apply Kd.N_drew));exact HO_10.out⟩, ⟨by (with_reducible repeat (first | apply Kd.R_alloc | apply Kd.S_alloc | apply Kd.N_alloc | apply Kd.R_drewN | apply Kd.S_drewN | apply Kd.N_drewN | apply Kd.R_drew | apply Kd.S_drew | apply Kd.N_drew));exact HO_15.out⟩, ⟨by (with_reducible repeat (first | apply Kd.R_alloc | apply Kd.S_alloc | apply Kd.N_alloc | apply Kd.R_drewN | apply Kd.S_drewN | apply Kd.N_drewN | apply Kd.R_drew | apply Kd.S_drew | apply Kd.N_drew));exact Kd.R_mono HO_516001.out (fun _ hk => trivial)⟩, ⟨by exact kP BK495.out⟩, ⟨by exact kP BK515.out⟩, ⟨by exact bB⟩⟩
    replace c81 := Bool.eq_false_iff.mpr c81
    subst c81
    rw [if_neg fF] at H
    have H' := Aside0.mk H
    clear H
    obtain ⟨Ao84, co84, eo84⟩ := Kd.S_slice HO_15.out
    subst eo84
    obtain ⟨Ao85, co85, eo85⟩ := Kd.N_slice HO_10.out
    subst eo85
    go_wp2_with (first | (go_at_call 11;(with_reducible refine (laws_eqIntSS.calls kj21 _ _ t522 _ _ t507 false _ ?side1 ?side2 ?side3 ?side4 A80.out).mono ?_);(case side1 => exact cP (Kd.S_reads' HO_15.out).2.2);(case side2 => exact (Kd.S_reads' HO_15.out).2.1);(case side3 => exact cP (Kd.N_reads' HO_10.out).2.2);(case side4 => exact (Kd.N_reads' HO_10.out).2.1);rintro e w' ⟨rfl, ⟨nd, rfl⟩⟩))
    go_meet
    case rel => exact ⟨P9_, _, (true), eF, H', ⟨by have := HJ21.out;first | omega | exact Nat.le_refl _⟩, ⟨by (with_reducible repeat (first | apply Kd.R_alloc | apply Kd.S_alloc | apply Kd.N_alloc | apply Kd.R_drewN | apply Kd.S_drewN | apply Kd.N_drewN | apply Kd.R_drew | apply Kd.S_drew | apply Kd.N_drew));exact HO_10.out⟩, ⟨by (with_reducible repeat (first | apply Kd.R_alloc | apply Kd.S_alloc | apply Kd.N_alloc | apply Kd.R_drewN | apply Kd.S_drewN | apply Kd.N_drewN | apply Kd.R_drew | apply Kd.S_drew | apply Kd.N_drew));exact HO_15.out⟩, ⟨by (with_reducible repeat (first | apply Kd.R_alloc | apply Kd.S_alloc | apply Kd.N_alloc | apply Kd.R_drewN | apply Kd.S_drewN | apply Kd.N_drewN | apply Kd.R_drew | apply Kd.S_drew | apply Kd.N_drew));exact Kd.R_mono HO_516001.out (fun _ hk => trivial)⟩, ⟨by exact kP BK495.out⟩, ⟨by exact kP BK515.out⟩, ⟨by exact bB⟩⟩
   case rest =>
    clear HC65
    try clear c1
    try clear c2
    try clear p2
    try clear c3
    try clear c4
    try clear c5
    try clear c5b0
    try clear c5b1
    try clear c6
    try clear c7
    try clear c7b0
    try clear c7b1
    try clear c8
    try clear c9
    try clear c10
    try clear c10b0
    try clear c11
    try clear c12
    try clear c13
    try clear c17
    try clear c19
    try clear c22
    try clear c24
    try clear c25
    try clear c37
    try clear c47
    try clear c52
    try clear c55
    try clear c58
    try clear c61
    try clear c74
    try clear c79
    try clear c79b0
    try clear c81
    try clear hcz12_0
    try clear hcz12_1
    try clear hcz24_0
    try clear hcz24_1
    try clear hcz26_0
    try clear hcz26_1
    try clear hcz34_0
    try clear hcz34_1
    try clear hcz38_0
    try clear hcz38_1
    try clear hcz42_0
    try clear hcz42_1
    try clear hcz75_0
    try clear hcz75_1
    try clear hfz12_0
    try clear hfz12_1
    try clear hfz24_0
    try clear hfz24_1
    try clear hfz26_0
    try clear hfz26_1
    try clear hfz34_0
    try clear hfz34_1
    try clear hfz38_0
    try clear hfz38_1
    try clear hfz42_0
    try clear hfz42_1
    try clear hfz75_0
    try clear hfz75_1
    try clear p2
    obtain ⟨P9_, kq, x103_64, rfl, HA, HJ64, HO_10, HO_15, HO_516001, BK495, BK515, HB⟩ := hcut
    have hl516001_64 := (Kd.R_reads' HO_516001.out).1
    rw [hl516001_64] at HO_516001
    (try simp only [hl516001_64])
    (try simp only [hl516001_64] at BK495)
    (try simp only [hl516001_64] at BK515)
    (try simp only [hl516001_64] at HO_10)
    (try simp only [hl516001_64] at HO_15)
    cases kq with
    | zero => exact absurd HA.out (by simp [laws_FnExactPlayAttacks.j1])
    | succ kj64 =>
     have H := HA.out
     clear HA
     simp only [laws_FnExactPlayAttacks.j1] at H
     by_cases c86 : x103_64 = true
     ·subst c86
      rw [if_pos rfl] at H
      obtain rfl := sI H
      go_wp2
      go_ret
      exact ⟨eW, by exact bB⟩
     replace c86 := Bool.eq_false_iff.mpr c86
     subst c86
     rw [if_neg fF] at H
     replace H := bE H
     obtain ⟨⟨t547, t548⟩, A870, H⟩ := H
     try dsimp only at H
     have A87 := Aside0.mk A870
     clear A870
     replace H := bE H
     obtain ⟨t549, A880, H⟩ := H
     try dsimp only at H
     have A88 := Aside0.mk A880
     clear A880
     by_cases c89 : t549 < 0
     ·rw [if_pos c89] at H
      have c89b0 : decide (t549 < 0) = true := decide_eq_true c89
      clear c89
      obtain rfl := sI H
      obtain ⟨Ao90, co90, eo90⟩ := Kd.S_slice HO_15.out
      subst eo90
      go_wp2_with (first | ((with_reducible refine gate_callee (f := 14) rfl ?_);refine goesL_ (some 106) rfl rfl Tryd.func14 kR rfl #[.slice Ao90 t522.length co90, .int .i64 1] rfl mM ?_;(with_reducible refine (laws_markIntSS.calls kj64 ?P9a0 (.slice Ao90 t522.length co90) t522 1 t547 t548 w _ ?side1 ?side2 A87.out).mono ?_);(case side1 => exact bB);(case side2 => exact mine9 HO_15.out);rintro e w91 ⟨rfl, hy0, hb, hkp⟩;refine ⟨_, rfl, ?_⟩;have n0_ := aM (Kd.N_mono (ok' := fun k_ => ¬ P9_ k_) (Kd.N_keptB HO_10.out hkp (fun k_ hk_ hs_ => hk_ hs_.1)) (fun k_ hk_ => hk_.1));have n1_ := aM (Kd.S_mono (ok' := fun k_ => True) hy0 (fun _ _ => trivial));have n2_ := aM (Kd.R_mono (ok' := fun k_ => True) (Kd.R_keptB (mine9_R HO_516001.out (by decide)) hkp (fun k_ hk_ hs_ => hk_ hs_)) (fun k_ hk_ => trivial));have n3_ := aM (blk_kept (by exact kP BK495.out) hkp (fun hs_ => mine9_block hs_ BK495.out (by decide)));have n4_ := aM (blk_kept (by exact kP BK515.out) hkp (fun hs_ => mine9_block hs_ BK515.out (by decide)));have n5_ := aM (hb);clear HO_10 HO_15 HO_516001 BK495 BK515 HB;have HO_10 := n0_;have HO_15 := n1_;have HO_516001 := n2_;have BK495 := n3_;have BK515 := n4_;have HB := n5_;clear n0_ n1_ n2_ n3_ n4_ n5_;(try clear hb);(try clear hkp);(try clear hy0)) | ((with_reducible refine gate_callee (f := 15) rfl ?_);refine goesL_ (some 109) rfl rfl Tryd.func15 kR rfl #[.slice Ao90 t548.length co90, .int .i64 1] rfl (by (try simp only [List.map_toArray, List.map_cons, List.map_nil]);first | done | (rw [show t548.length = t522.length from (Kd.S_reads' HO_15.out).1.symm] <;> rfl) | rfl | (simp only [List.length_drop, List.length_take];rfl)) ?_;(with_reducible refine (laws_heldIntSS.calls kj64 _ _ t548 1 t549 _ ?side1 ?side2 A88.out).mono ?_);(case side1 => exact cP (Kd.S_reads' HO_15.out).2.2);(case side2 => rw [show t548.length = t522.length from (Kd.S_reads' HO_15.out).1.symm];exact (Kd.S_reads' HO_15.out).2.1);rintro e w' ⟨rfl, ⟨nd, rfl⟩⟩;refine ⟨_, rfl, ?_⟩))
      go_ret
      exact ⟨eW, by exact bB⟩
     rw [if_neg c89] at H
     have c89b0 : decide (t549 < 0) = false := decide_eq_false c89
     clear c89
     by_cases c92 : t549 = t547
     rotate_left
     ·rw [if_neg c92] at H
      have c92b0 : (t549 == t547) = false := beq_eq_false_iff_ne.mpr c92
      have c92b1 : (t549 != t547) = true := bne_iff_ne.mpr c92
      obtain rfl := sI H
      obtain ⟨Ao119, co119, eo119⟩ := Kd.S_slice HO_15.out
      subst eo119
      go_wp2_with (first | ((with_reducible refine gate_callee (f := 14) rfl ?_);refine goesL_ (some 106) rfl rfl Tryd.func14 kR rfl #[.slice Ao119 t522.length co119, .int .i64 1] rfl mM ?_;(with_reducible refine (laws_markIntSS.calls kj64 ?P9a2 (.slice Ao119 t522.length co119) t522 1 t547 t548 w _ ?side1 ?side2 A87.out).mono ?_);(case side1 => exact bB);(case side2 => exact mine9 HO_15.out);rintro e w120 ⟨rfl, hy0, hb, hkp⟩;refine ⟨_, rfl, ?_⟩;have n0_ := aM (Kd.N_mono (ok' := fun k_ => ¬ P9_ k_) (Kd.N_keptB HO_10.out hkp (fun k_ hk_ hs_ => hk_ hs_.1)) (fun k_ hk_ => hk_.1));have n1_ := aM (Kd.S_mono (ok' := fun k_ => True) hy0 (fun _ _ => trivial));have n2_ := aM (Kd.R_mono (ok' := fun k_ => True) (Kd.R_keptB (mine9_R HO_516001.out (by decide)) hkp (fun k_ hk_ hs_ => hk_ hs_)) (fun k_ hk_ => trivial));have n3_ := aM (blk_kept (by exact kP BK495.out) hkp (fun hs_ => mine9_block hs_ BK495.out (by decide)));have n4_ := aM (blk_kept (by exact kP BK515.out) hkp (fun hs_ => mine9_block hs_ BK515.out (by decide)));have n5_ := aM (hb);clear HO_10 HO_15 HO_516001 BK495 BK515 HB;have HO_10 := n0_;have HO_15 := n1_;have HO_516001 := n2_;have BK495 := n3_;have BK515 := n4_;have HB := n5_;clear n0_ n1_ n2_ n3_ n4_ n5_;(try clear hb);(try clear hkp);(try clear hy0)) | ((with_reducible refine gate_callee (f := 15) rfl ?_);refine goesL_ (some 109) rfl rfl Tryd.func15 kR rfl #[.slice Ao119 t548.length co119, .int .i64 1] rfl (by (try simp only [List.map_toArray, List.map_cons, List.map_nil]);first | done | (rw [show t548.length = t522.length from (Kd.S_reads' HO_15.out).1.symm] <;> rfl) | rfl | (simp only [List.length_drop, List.length_take];rfl)) ?_;(with_reducible refine (laws_heldIntSS.calls kj64 _ _ t548 1 t549 _ ?side1 ?side2 A88.out).mono ?_);(case side1 => exact cP (Kd.S_reads' HO_15.out).2.2);(case side2 => rw [show t548.length = t522.length from (Kd.S_reads' HO_15.out).1.symm];exact (Kd.S_reads' HO_15.out).2.1);rintro e w' ⟨rfl, ⟨nd, rfl⟩⟩;refine ⟨_, rfl, ?_⟩))
      go_ret
      exact ⟨eW, by exact bB⟩
     rw [if_pos c92] at H
     have c92b0 : (t549 == t547) = true := beq_iff_eq.mpr c92
     have c92b1 : (t549 != t547) = false := bne_eq_false_iff_eq.mpr c92
     clear c92
     replace H := bE H
     obtain ⟨⟨t550, t551⟩, A930, H⟩ := H
     try dsimp only at H
     have A93 := Aside0.mk A930
     clear A930
     replace H := bE H
     obtain ⟨t554, A940, H⟩ := H
     try dsimp only at H
     have A94 := Aside0.mk A940
     clear A940
     replace H := bE H
     obtain ⟨t557, A950, H⟩ := H
     try dsimp only at H
     have A95 := Aside0.mk A950
     clear A950
     replace H := bE H
     obtain ⟨⟨t560, t563⟩, A960, H⟩ := H
     try dsimp only at H
     have A96 := Aside0.mk A960
     clear A960
     have HC97 := Aside0.mk H
     clear H
     obtain ⟨Ao98, co98, eo98⟩ := Kd.S_slice HO_15.out
     subst eo98
     go_upto_region 37 with (first | ((with_reducible refine gate_callee (f := 14) rfl ?_);refine goesL_ (some 106) rfl rfl Tryd.func14 kR rfl #[.slice Ao98 t522.length co98, .int .i64 1] rfl mM ?_;(with_reducible refine (laws_markIntSS.calls kj64 ?P9a1 (.slice Ao98 t522.length co98) t522 1 t547 t548 w _ ?side1 ?side2 A87.out).mono ?_);(case side1 => exact bB);(case side2 => exact mine9 HO_15.out);rintro e w99 ⟨rfl, hy0, hb, hkp⟩;refine ⟨_, rfl, ?_⟩;have n0_ := aM (Kd.N_mono (ok' := fun k_ => ¬ P9_ k_) (Kd.N_keptB HO_10.out hkp (fun k_ hk_ hs_ => hk_ hs_.1)) (fun k_ hk_ => hk_.1));have n1_ := aM (Kd.S_mono (ok' := fun k_ => True) hy0 (fun _ _ => trivial));have n2_ := aM (Kd.R_mono (ok' := fun k_ => True) (Kd.R_keptB (mine9_R HO_516001.out (by decide)) hkp (fun k_ hk_ hs_ => hk_ hs_)) (fun k_ hk_ => trivial));have n3_ := aM (blk_kept (by exact kP BK495.out) hkp (fun hs_ => mine9_block hs_ BK495.out (by decide)));have n4_ := aM (blk_kept (by exact kP BK515.out) hkp (fun hs_ => mine9_block hs_ BK515.out (by decide)));have n5_ := aM (hb);clear HO_10 HO_15 HO_516001 BK495 BK515 HB;have HO_10 := n0_;have HO_15 := n1_;have HO_516001 := n2_;have BK495 := n3_;have BK515 := n4_;have HB := n5_;clear n0_ n1_ n2_ n3_ n4_ n5_;(try clear hb);(try clear hkp);(try clear hy0)) | ((with_reducible refine gate_callee (f := 15) rfl ?_);refine goesL_ (some 109) rfl rfl Tryd.func15 kR rfl #[.slice Ao98 t548.length co98, .int .i64 1] rfl (by (try simp only [List.map_toArray, List.map_cons, List.map_nil]);first | done | (rw [show t548.length = t522.length from (Kd.S_reads' HO_15.out).1.symm] <;> rfl) | rfl | (simp only [List.length_drop, List.length_take];rfl)) ?_;(with_reducible refine (laws_heldIntSS.calls kj64 _ _ t548 1 t549 _ ?side1 ?side2 A88.out).mono ?_);(case side1 => exact cP (Kd.S_reads' HO_15.out).2.2);(case side2 => rw [show t548.length = t522.length from (Kd.S_reads' HO_15.out).1.symm];exact (Kd.S_reads' HO_15.out).2.1);rintro e w' ⟨rfl, ⟨nd, rfl⟩⟩;refine ⟨_, rfl, ?_⟩;have hnb100 := NB495_515.out;have hnc100 := NB515_495.out;have hcz101_0 := bC0 BK495.out;have hcz101_1 := bC1 BK495.out;have hfz101_0 := blk_frozen BK495.out 0;have hfz101_1 := blk_frozen BK495.out 1) | ((with_reducible refine gate_callee (f := 9) rfl ?_);refine goesL_ (some 117) rfl rfl Tryd.func9 kR rfl #[.agg #[.int .i64 a0_0, .slice A0_1 l0_1.length c0_1]] rfl mM ?_;(with_reducible refine (laws_toGraph.calls kj64 a0_0 _ _ l0_1 t550 t551 _ ?side1 ?side2 A93.out).mono ?_);(case side1 => exact cP (Kd.C_below HR0_1.out (by repeat (first | (with_reducible first | exact HB.out | apply below_alloc | apply pw_below_drewN | apply below_drew1 | refine below_set ?_ GE495.out | refine below_set ?_ GE515.out) | exact HB.out))));(case side2 => exact HC0_1.out);rintro e w102 ⟨v552, rfl, ho0, hb⟩;refine ⟨_, rfl, ?_⟩;have n0_ := aM (Kd.N_below (by exact uP HO_10.out) hb);have n1_ := aM (Kd.S_below (by exact tP HO_15.out) hb);have n2_ := aM (Kd.R_elder' (by exact rP HO_516001.out) (Kd.R_base ho0) hb);have n3_ := aM (Kd.R_lower (Kd.R_new' ho0 (Kd.R_lt (by exact rP HO_516001.out))) (below_size (by exact bB)));have n4_ := aM (kB hb BK495.out);have n5_ := aM (kB hb BK515.out);have n6_ := aM (below_step (by exact bB) hb);clear HO_10 HO_15 HO_516001 BK495 BK515 HB;have HO_10 := n0_;have HO_15 := n1_;have HO_516001 := n2_;have HO553 := n3_;have BK495 := n4_;have BK515 := n5_;have HB := n6_;clear n0_ n1_ n2_ n3_ n4_ n5_ n6_;(try clear hb);(try clear ho0)) | ((with_reducible refine gate_callee (f := 17) rfl ?_);refine goesL_ (some 119) rfl rfl Tryd.func17 kR rfl #[.slice A1 l1.length c1] rfl mM ?_;(with_reducible refine (laws_toIntS.calls kj64 _ _ l1 t554 _ ?side1 ?side2 A94.out).mono ?_);(case side1 => exact cP (Kd.C_below HR1.out HB.out));(case side2 => exact HC1.out);rintro e w103 ⟨v555, rfl, ho0, hb⟩;refine ⟨_, rfl, ?_⟩;have n0_ := aM (Kd.N_below (by exact uP HO_10.out) hb);have n1_ := aM (Kd.S_below (by exact tP HO_15.out) hb);have n2_ := aM (Kd.R_below (by exact rP HO_516001.out) hb);have n3_ := aM (Kd.R_below (by exact rP HO553.out) hb);have n4_ := aM (Kd.R_lower ho0 (below_size (by exact bB)));have n5_ := aM (kB hb BK495.out);have n6_ := aM (kB hb BK515.out);have n7_ := aM (below_step (by exact bB) hb);clear HO_10 HO_15 HO_516001 HO553 BK495 BK515 HB;have HO_10 := n0_;have HO_15 := n1_;have HO_516001 := n2_;have HO553 := n3_;have HO556 := n4_;have BK495 := n5_;have BK515 := n6_;have HB := n7_;clear n0_ n1_ n2_ n3_ n4_ n5_ n6_ n7_;(try clear hb);(try clear ho0)) | ((with_reducible refine gate_callee (f := 17) rfl ?_);refine goesL_ (some 121) rfl rfl Tryd.func17 kR rfl #[.slice A2 l2.length c2] rfl mM ?_;(with_reducible refine (laws_toIntS.calls kj64 _ _ l2 t557 _ ?side1 ?side2 A95.out).mono ?_);(case side1 => exact cP (Kd.C_below HR2.out HB.out));(case side2 => exact HC2.out);rintro e w104 ⟨v558, rfl, ho0, hb⟩;refine ⟨_, rfl, ?_⟩;have n0_ := aM (Kd.N_below (by exact uP HO_10.out) hb);have n1_ := aM (Kd.S_below (by exact tP HO_15.out) hb);have n2_ := aM (Kd.R_below (by exact rP HO_516001.out) hb);have n3_ := aM (Kd.R_below (by exact rP HO553.out) hb);have n4_ := aM (Kd.R_elder' (by exact rP HO556.out) (Kd.R_base ho0) hb);have n5_ := aM (Kd.R_lower (Kd.R_new' ho0 (Kd.R_lt (by exact rP HO556.out))) (below_size (by exact bB)));have n6_ := aM (kB hb BK495.out);have n7_ := aM (kB hb BK515.out);have n8_ := aM (below_step (by exact bB) hb);clear HO_10 HO_15 HO_516001 HO553 HO556 BK495 BK515 HB;have HO_10 := n0_;have HO_15 := n1_;have HO_516001 := n2_;have HO553 := n3_;have HO556 := n4_;have HO559 := n5_;have BK495 := n6_;have BK515 := n7_;have HB := n8_;clear n0_ n1_ n2_ n3_ n4_ n5_ n6_ n7_ n8_;(try clear hb);(try clear ho0);obtain ⟨Ao105, co105, eo105⟩ := Kd.R_slice HO553.out;subst eo105;obtain ⟨Ao106, co106, eo106⟩ := Kd.R_slice HO556.out;subst eo106;obtain ⟨Ao107, co107, eo107⟩ := Kd.R_slice HO559.out;subst eo107) | ((with_reducible refine gate_callee (f := 25) rfl ?_);refine goesL_ (some 123) rfl rfl Tryd.func25 kR rfl #[.agg #[.int .i64 t550, .slice Ao105 t551.length co105], .slice Ao106 t554.length co106, .slice Ao107 t557.length co107, .bool a3] rfl mM ?_;(with_reducible refine (impl_PlayAttacks.calls kj64 t550 _ _ t551 _ _ t554 _ _ t557 a3 t560 t563 _ ?sideT ?side1 ?side2 ?side3 ?side4 ?side5 ?side6 A96.out).mono ?_);(case sideT => exact tabG_below HT.out (by exact bB));(case side1 => exact cP (Kd.R_reads' HO553.out).2.2);(case side2 => exact (Kd.R_reads' HO553.out).2.1);(case side3 => exact cP (Kd.R_reads' HO556.out).2.2);(case side4 => exact (Kd.R_reads' HO556.out).2.1);(case side5 => exact cP (Kd.R_reads' HO559.out).2.2);(case side6 => exact (Kd.R_reads' HO559.out).2.1);rintro e w108 ⟨v561, rfl, ho0, hb⟩;refine ⟨_, rfl, ?_⟩;have n0_ := aM (Kd.N_elder' (by exact uP HO_10.out) (Kd.S_base ho0) hb);have n1_ := aM (Kd.S_elder' (by exact tP HO_15.out) (Kd.S_base ho0) hb);have n2_ := aM (Kd.R_below (by exact rP HO_516001.out) hb);have n3_ := aM (Kd.R_below (by exact rP HO553.out) hb);have n4_ := aM (Kd.R_below (by exact rP HO556.out) hb);have n5_ := aM (Kd.R_below (by exact rP HO559.out) hb);have n6_ := aM (Kd.S_lower (Kd.S_new' (Kd.S_new' ho0 (Kd.N_lt (by exact uP HO_10.out))) (Kd.S_lt (by exact tP HO_15.out))) (below_size (by exact bB)));have n7_ := aM (kB hb BK495.out);have n8_ := aM (kB hb BK515.out);have n9_ := aM (below_step (by exact bB) hb);clear HO_10 HO_15 HO_516001 HO553 HO556 HO559 BK495 BK515 HB;have HO_10 := n0_;have HO_15 := n1_;have HO_516001 := n2_;have HO553 := n3_;have HO556 := n4_;have HO559 := n5_;have HO562 := n6_;have BK495 := n7_;have BK515 := n8_;have HB := n9_;clear n0_ n1_ n2_ n3_ n4_ n5_ n6_ n7_ n8_ n9_;(try clear hb);(try clear ho0)))
     (try simp only [Act.put, List.setIfInBounds_toArray, List.set_cons_zero, List.set_cons_succ])
     go_cut [134] (fun v134 wc => ∃ (kq : Nat) (x134_96 : Bool), v134 = .bool x134_96 ∧ Aside0 (laws_FnExactPlayAttacks.j2 kq t548 t547 x134_96 = some r) ∧ Aside0 (kq ≤ kj64) ∧ Aside0 (Kd.S (Kd.slice 3 (Kd.int .i64)) 36 wc w.heap.size (fun k_ => True) (.slice Ao98 t522.length co98) t548) ∧ Aside0 (Kd.R k78 78 wc w.heap.size (fun _ => True) (.slice Ao39 t541.length co39) t541) ∧ Aside0 (wc.heap[gb495]? = some (.cells #[.int .i64 a0_0, (.slice A0_1 l0_1.length c0_1)] 24 (0, 0))) ∧ Aside0 (wc.heap[gb515]? = some (.cells #[.int .i64 t511, (.slice Ao39 t541.length co39)] 29 (0, 0))) ∧ Aside0 (Below w.heap.size w wc))
     case first =>
      have H := HC97.out
      clear HC97
      replace H := bE H
      obtain ⟨t564, A1090, H⟩ := H
      try dsimp only at H
      have A109 := Aside0.mk A1090
      clear A1090
      by_cases c110 : t564 = true
      ·subst c110
       rw [if_pos rfl] at H
       have H' := Aside0.mk H
       clear H
       obtain ⟨Ao111, co111, eo111⟩ := Kd.S_slice HO562.out
       subst eo111
       obtain ⟨Ao112, co112, eo112⟩ := Kd.N_slice HO_10.out
       subst eo112
       go_wp2_with (first | ((with_reducible refine gate_callee (f := 11) rfl ?_);refine goesL_ (some 128) rfl rfl Tryd.func11 kR rfl #[.slice Ao111 t560.length co111, .slice Ao112 t507.length co112] rfl mM ?_;(with_reducible refine (laws_eqIntSS.calls kj64 _ _ t560 _ _ t507 true _ ?side1 ?side2 ?side3 ?side4 A109.out).mono ?_);(case side1 => exact cP (Kd.S_reads' HO562.out).2.2);(case side2 => exact (Kd.S_reads' HO562.out).2.1);(case side3 => exact cP (Kd.N_reads' HO_10.out).2.2);(case side4 => exact (Kd.N_reads' HO_10.out).2.1);rintro e w' ⟨rfl, ⟨nd, rfl⟩⟩;refine ⟨_, rfl, ?_⟩))
       go_meet
       case rel => exact ⟨_, ((t563 != t510)), eF, H', ⟨by have := HJ21.out;have := HJ64.out;first | omega | exact Nat.le_refl _⟩, ⟨by (try simp only [hl516001_64]);(with_reducible repeat (first | apply Kd.R_alloc | apply Kd.S_alloc | apply Kd.N_alloc | apply Kd.R_drewN | apply Kd.S_drewN | apply Kd.N_drewN | apply Kd.R_drew | apply Kd.S_drew | apply Kd.N_drew));exact Kd.S_mono HO_15.out (fun _ hk => by first | exact hk | exact hk.2 | exact hk.1 | exact hk.2.1 | exact ⟨hk.1, hk.2.1⟩ | trivial)⟩, ⟨by (try simp only [hl516001_64]);(with_reducible repeat (first | apply Kd.R_alloc | apply Kd.S_alloc | apply Kd.N_alloc | apply Kd.R_drewN | apply Kd.S_drewN | apply Kd.N_drewN | apply Kd.R_drew | apply Kd.S_drew | apply Kd.N_drew));exact Kd.R_mono HO_516001.out (fun _ hk => trivial)⟩, ⟨by (try simp only [hl516001_64]);exact kP BK495.out⟩, ⟨by (try simp only [hl516001_64]);exact kP BK515.out⟩, ⟨by exact bB⟩⟩
      replace c110 := Bool.eq_false_iff.mpr c110
      subst c110
      rw [if_neg fF] at H
      have H' := Aside0.mk H
      clear H
      obtain ⟨Ao113, co113, eo113⟩ := Kd.S_slice HO562.out
      subst eo113
      obtain ⟨Ao114, co114, eo114⟩ := Kd.N_slice HO_10.out
      subst eo114
      go_wp2_with (first | ((with_reducible refine gate_callee (f := 11) rfl ?_);refine goesL_ (some 128) rfl rfl Tryd.func11 kR rfl #[.slice Ao113 t560.length co113, .slice Ao114 t507.length co114] rfl mM ?_;(with_reducible refine (laws_eqIntSS.calls kj64 _ _ t560 _ _ t507 false _ ?side1 ?side2 ?side3 ?side4 A109.out).mono ?_);(case side1 => exact cP (Kd.S_reads' HO562.out).2.2);(case side2 => exact (Kd.S_reads' HO562.out).2.1);(case side3 => exact cP (Kd.N_reads' HO_10.out).2.2);(case side4 => exact (Kd.N_reads' HO_10.out).2.1);rintro e w' ⟨rfl, ⟨nd, rfl⟩⟩;refine ⟨_, rfl, ?_⟩))
      go_meet
      case rel => exact ⟨_, (true), eF, H', ⟨by have := HJ21.out;have := HJ64.out;first | omega | exact Nat.le_refl _⟩, ⟨by (try simp only [hl516001_64]);(with_reducible repeat (first | apply Kd.R_alloc | apply Kd.S_alloc | apply Kd.N_alloc | apply Kd.R_drewN | apply Kd.S_drewN | apply Kd.N_drewN | apply Kd.R_drew | apply Kd.S_drew | apply Kd.N_drew));exact Kd.S_mono HO_15.out (fun _ hk => by first | exact hk | exact hk.2 | exact hk.1 | exact hk.2.1 | exact ⟨hk.1, hk.2.1⟩ | trivial)⟩, ⟨by (try simp only [hl516001_64]);(with_reducible repeat (first | apply Kd.R_alloc | apply Kd.S_alloc | apply Kd.N_alloc | apply Kd.R_drewN | apply Kd.S_drewN | apply Kd.N_drewN | apply Kd.R_drew | apply Kd.S_drew | apply Kd.N_drew));exact Kd.R_mono HO_516001.out (fun _ hk => trivial)⟩, ⟨by (try simp only [hl516001_64]);exact kP BK495.out⟩, ⟨by (try simp only [hl516001_64]);exact kP BK515.out⟩, ⟨by exact bB⟩⟩
     case rest =>
      clear HC97
      try clear c1
      try clear c2
      try clear p2
      try clear c3
      try clear c4
      try clear c5
      try clear c5b0
      try clear c5b1
      try clear c6
      try clear c7
      try clear c7b0
      try clear c7b1
      try clear c8
      try clear c9
      try clear c10
      try clear c10b0
      try clear c11
      try clear c12
      try clear c13
      try clear c14
      try clear c15
      try clear c17
      try clear c19
      try clear c22
      try clear c24
      try clear c25
      try clear c37
      try clear c47
      try clear c52
      try clear c55
      try clear c58
      try clear c61
      try clear c74
      try clear c79
      try clear c79b0
      try clear c81
      try clear c86
      try clear c89
      try clear c89b0
      try clear c92
      try clear c92b0
      try clear c92b1
      try clear c100
      try clear c110
      try clear hcz101_0
      try clear hcz101_1
      try clear hcz12_0
      try clear hcz12_1
      try clear hcz24_0
      try clear hcz24_1
      try clear hcz26_0
      try clear hcz26_1
      try clear hcz34_0
      try clear hcz34_1
      try clear hcz38_0
      try clear hcz38_1
      try clear hcz42_0
      try clear hcz42_1
      try clear hcz75_0
      try clear hcz75_1
      try clear hfz101_0
      try clear hfz101_1
      try clear hfz12_0
      try clear hfz12_1
      try clear hfz24_0
      try clear hfz24_1
      try clear hfz26_0
      try clear hfz26_1
      try clear hfz34_0
      try clear hfz34_1
      try clear hfz38_0
      try clear hfz38_1
      try clear hfz42_0
      try clear hfz42_1
      try clear hfz75_0
      try clear hfz75_1
      try clear p2
      obtain ⟨kq, x134_96, rfl, HA, HJ96, HO_15, HO_516001, BK495, BK515, HB⟩ := hcut
      have hl15_96 := (Kd.S_reads' HO_15.out).1
      rw [hl15_96] at HO_15
      (try simp only [hl15_96])
      (try simp only [hl15_96] at BK495)
      (try simp only [hl15_96] at BK515)
      (try simp only [hl15_96] at HO_516001)
      cases kq with
      | zero => exact absurd HA.out (by simp [laws_FnExactPlayAttacks.j2])
      | succ kj96 =>
       have H := HA.out
       clear HA
       simp only [laws_FnExactPlayAttacks.j2] at H
       by_cases c115 : x134_96 = true
       ·subst c115
        rw [if_pos rfl] at H
        obtain rfl := sI H
        go_wp2
        go_ret
        exact ⟨eW, by exact bB⟩
       replace c115 := Bool.eq_false_iff.mpr c115
       subst c115
       rw [if_neg fF] at H
       replace H := bE H
       obtain ⟨t565, A1160, H⟩ := H
       try dsimp only at H
       have A116 := Aside0.mk A1160
       clear A1160
       by_cases c117 : t565 < 0
       ·rw [if_pos c117] at H
        have c117b0 : decide (t565 < 0) = true := decide_eq_true c117
        clear c117
        obtain rfl := sI H
        go_wp2_with (first | ((with_reducible refine gate_callee (f := 15) rfl ?_);refine goesL_ (some 137) rfl rfl Tryd.func15 kR rfl #[.slice Ao98 t548.length co98, .int .i64 1] rfl mM ?_;(with_reducible refine (laws_heldIntSS.calls kj96 _ _ t548 1 t565 _ ?side1 ?side2 A116.out).mono ?_);(case side1 => exact cP (Kd.S_reads' HO_15.out).2.2);(case side2 => exact (Kd.S_reads' HO_15.out).2.1);rintro e w' ⟨rfl, ⟨nd, rfl⟩⟩;refine ⟨_, rfl, ?_⟩))
        go_ret
        exact ⟨eW, by exact bB⟩
       rw [if_neg c117] at H
       have c117b0 : decide (t565 < 0) = false := decide_eq_false c117
       clear c117
       by_cases c118 : t565 = t547
       rotate_left
       ·rw [if_neg c118] at H
        have c118b0 : (t565 == t547) = false := beq_eq_false_iff_ne.mpr c118
        have c118b1 : (t565 != t547) = true := bne_iff_ne.mpr c118
        obtain rfl := sI H
        go_wp2_with (first | ((with_reducible refine gate_callee (f := 15) rfl ?_);refine goesL_ (some 137) rfl rfl Tryd.func15 kR rfl #[.slice Ao98 t548.length co98, .int .i64 1] rfl mM ?_;(with_reducible refine (laws_heldIntSS.calls kj96 _ _ t548 1 t565 _ ?side1 ?side2 A116.out).mono ?_);(case side1 => exact cP (Kd.S_reads' HO_15.out).2.2);(case side2 => exact (Kd.S_reads' HO_15.out).2.1);rintro e w' ⟨rfl, ⟨nd, rfl⟩⟩;refine ⟨_, rfl, ?_⟩))
        go_ret
        exact ⟨eW, by exact bB⟩
       rw [if_pos c118] at H
       have c118b0 : (t565 == t547) = true := beq_iff_eq.mpr c118
       have c118b1 : (t565 != t547) = false := bne_eq_false_iff_eq.mpr c118
       clear c118
       obtain rfl := sI H
       go_wp2_with (first | ((with_reducible refine gate_callee (f := 15) rfl ?_);refine goesL_ (some 137) rfl rfl Tryd.func15 kR rfl #[.slice Ao98 t548.length co98, .int .i64 1] rfl mM ?_;(with_reducible refine (laws_heldIntSS.calls kj96 _ _ t548 1 t565 _ ?side1 ?side2 A116.out).mono ?_);(case side1 => exact cP (Kd.S_reads' HO_15.out).2.2);(case side2 => exact (Kd.S_reads' HO_15.out).2.1);rintro e w' ⟨rfl, ⟨nd, rfl⟩⟩;refine ⟨_, rfl, ?_⟩))
       go_ret
       exact ⟨eW, by exact bB⟩


end Go.Proofs.YtgahlimikndecaaDoor.QPlayAttacks
