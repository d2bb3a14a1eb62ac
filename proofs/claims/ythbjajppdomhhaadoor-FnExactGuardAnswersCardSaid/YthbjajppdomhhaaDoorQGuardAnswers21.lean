import Derived.Test.YthbjajppdomhhaaDoorQGuardAnswers0
import Derived.Test.YthbjajppdomhhaaDoorQGuardAnswers1
import Derived.Test.YthbjajppdomhhaaDoorQGuardAnswers2
import Derived.Test.YthbjajppdomhhaaDoorQGuardAnswers3
import Derived.Test.YthbjajppdomhhaaDoorQGuardAnswers11
import Derived.Test.YthbjajppdomhhaaDoorQGuardAnswers20
namespace Go.Proofs.YthbjajppdomhhaaDoor.QGuardAnswers
open Go.RowKit Go.Proofs.YthbjajppdomhhaaDoorW.PrintWords Go.Proofs.YthbjajppdomhhaaDoorW.PrintLast Go.Proofs.YthbjajppdomhhaaDoorW.PrintMore
attribute [local go_sem] max2_int min2_int max_two min_two max_three min_three max_four min_four   -- for this text's walks alone
set_option linter.unusedVariables false
set_option linter.unusedSimpArgs false
/-! ### laws_FnExactGuardAnswers: function 9 -/
def Mine9 (P : Nat → Prop) (W : World) (base : Nat) (E : List Nat) (k : Nat) : Prop := P k ∧ base ≤ k ∧ k < W.heap.size ∧ ∃ q, q ∈ E ∧ ∃ cells, W.heap[k]? = some (.cells cells q (0, 0))
theorem mine9 {α : Type} {d : Kd α} {e base : Nat} {ok : Nat → Prop} {w : World} {v : Value} {xs : List α} (h : Kd.S d e w base ok v xs) : Kd.S d e w base (Mine9 ok w base (e :: d.E)) v xs := Kd.S_bound h
theorem mine9_block {P : Nat → Prop} {W : World} {base g t : Nat} {E : List Nat} {cells : Array Value} (h : Mine9 P W base E g) (hb : W.heap[g]? = some (.cells cells t (0, 0))) (ht : ¬ t ∈ E) : False := by
 obtain ⟨_, _, _, q, hq, c, hc⟩ := h
 rw [hc] at hb
 simp only [Option.some.injEq, Obj.cells.injEq] at hb
 exact ht (hb.2.1 ▸ hq)
theorem mine9_R {α : Type} {d : Kd α} {e b base : Nat} {ok P : Nat → Prop} {W : World} {E : List Nat} {v : Value} {xs : List α} (h : Kd.R d e W b ok v xs) (hE : ∀ q ∈ e :: d.E, ¬ q ∈ E) : Kd.R d e W b (fun k => ¬ Mine9 P W base E k) v xs :=
 Kd.R_mono (Kd.R_bound h) (fun k hk hM => by obtain ⟨_, _, _, q, hq, c, hc⟩ := hk;exact mine9_block hM hc (hE q hq))
theorem mine9_old {W W1 : World} (hb : Below W.heap.size W W1) : ∃ P9_ : Nat → Prop, ∀ k, P9_ k ↔ W.heap.size ≤ k := ⟨_, fun _ => Iff.rfl⟩
mutual
def laws_FnExactGuardAnswers.j0 : Nat → List Int → Int → Bool → List (List Int) → Bool → List Int → List (List Int) → Bool → Bool → Int → List (S92) → Int → List (S92) → Option (Bool)
 | 0, _, _, _, _, _, _, _, _, _, _, _, _, _ => none
 | k + 1, x1, x2, x3, x10, x11, x13, x14, x15, x59, x468000, x468001, x485000, x485001 => if x59 = true then (some false) else ((laws_toGraph.f k x468000 x468001).bind fun bt493 => ((laws_eqGraph.f k x485000 x485001 bt493.1 bt493.2).bind fun t497 => (if t497 = true then ((laws_toIntS.f k x1).bind fun t498 => ((laws_eqIntS.f k x13 t498).bind fun t501 => (if t501 = true then ((laws_markGraph.f x485000 x485001 1).bind fun bt502 => ((laws_markIntS.f k x13 bt502.1).bind fun bt504 => (if bt504.1 < 0 then (laws_FnExactGuardAnswers.j1 k x1 x2 x3 x10 x11 x14 true x468000 x468001) else ((laws_eqIntSS.f k x14 x10).bind fun t506 => (if t506 = true then (laws_FnExactGuardAnswers.j1 k x1 x2 x3 x10 x11 x14 (x15 != x11) x468000 x468001) else (laws_FnExactGuardAnswers.j1 k x1 x2 x3 x10 x11 x14 true x468000 x468001)))))) else (some false)))) else (some false))))
def laws_FnExactGuardAnswers.j1 : Nat → List Int → Int → Bool → List (List Int) → Bool → List (List Int) → Bool → Int → List (S92) → Option (Bool)
 | 0, _, _, _, _, _, _, _, _, _ => none
 | k + 1, x1, x2, x3, x10, x11, x14, x88, x468000, x468001 => if x88 = true then (some false) else ((laws_markIntSS.f k x14 1).bind fun bt507 => ((laws_heldIntSS.f k bt507.2 1).bind fun t509 => (if t509 < 0 then (some false) else (if t509 = bt507.1 then ((laws_toGraph.f k x468000 x468001).bind fun bt510 => ((laws_toIntS.f k x1).bind fun t514 => ((impl_GuardAnswers.f k bt510.1 bt510.2 t514 x2 x3).bind fun bt517 => ((laws_eqIntSS.f k bt517.1 x10).bind fun t521 => (if t521 = true then (laws_FnExactGuardAnswers.j2 k bt507.2 bt507.1 (bt517.2 != x11)) else (laws_FnExactGuardAnswers.j2 k bt507.2 bt507.1 true)))))) else (some false)))))
def laws_FnExactGuardAnswers.j2 : Nat → List (List Int) → Int → Bool → Option (Bool)
 | 0, _, _, _ => none
 | k + 1, x14, x17, x118 => if x118 = true then (some false) else ((laws_heldIntSS.f k x14 1).bind fun t522 => (if t522 < 0 then (some false) else (if t522 = x17 then (some true) else (some false))))
end
def laws_FnExactGuardAnswers.f (k : Nat) (a0_0 : Int) (l0_1 : List (S92)) (l1 : List Int) (a2 : Int) (a3 : Bool) : Option (Bool) := if (l1.length : Int) > 1048576 then (some true) else ((laws_szGraph.f a0_0 l0_1 1048576).bind fun t468 => (if t468 < 0 then (some true) else ((laws_toGraph.f k a0_0 l0_1).bind fun bt469 => ((laws_toIntS.f k l1).bind fun t473 => ((spec_GuardAnswers.f k bt469.1 bt469.2 t473 a2 a3).bind fun bt476 => ((laws_toGraph.f k a0_0 l0_1).bind fun bt480 => ((laws_toIntS.f k l1).bind fun t485 => ((impl_GuardAnswers.f k bt480.1 bt480.2 t485 a2 a3).bind fun bt488 => ((laws_eqIntSS.f k bt488.1 bt476.1).bind fun t492 => (if t492 = true then (laws_FnExactGuardAnswers.j0 k l1 a2 a3 bt476.1 bt476.2 t485 bt488.1 bt488.2 (bt488.2 != bt476.2) a0_0 l0_1 bt480.1 bt480.2) else (laws_FnExactGuardAnswers.j0 k l1 a2 a3 bt476.1 bt476.2 t485 bt488.1 bt488.2 true a0_0 l0_1 bt480.1 bt480.2)))))))))))
theorem laws_FnExactGuardAnswers.mono_l : ∀ k, (∀ y0 y1 y2 y3 y4 y5 y6 y7 y8 y9 y10 y11 y12, LeO (laws_FnExactGuardAnswers.j0 k y0 y1 y2 y3 y4 y5 y6 y7 y8 y9 y10 y11 y12) (laws_FnExactGuardAnswers.j0 (k + 1) y0 y1 y2 y3 y4 y5 y6 y7 y8 y9 y10 y11 y12)) ∧ (∀ y0 y1 y2 y3 y4 y5 y6 y7 y8, LeO (laws_FnExactGuardAnswers.j1 k y0 y1 y2 y3 y4 y5 y6 y7 y8) (laws_FnExactGuardAnswers.j1 (k + 1) y0 y1 y2 y3 y4 y5 y6 y7 y8)) ∧ (∀ y0 y1 y2, LeO (laws_FnExactGuardAnswers.j2 k y0 y1 y2) (laws_FnExactGuardAnswers.j2 (k + 1) y0 y1 y2))
 | 0 => ⟨fun _ _ _ _ _ _ _ _ _ _ _ _ _ r h => by simp [laws_FnExactGuardAnswers.j0] at h, fun _ _ _ _ _ _ _ _ _ r h => by simp [laws_FnExactGuardAnswers.j1] at h, fun _ _ _ r h => by simp [laws_FnExactGuardAnswers.j2] at h⟩
 | k + 1 => by
  obtain ⟨ih0, ih1, ih2⟩ := laws_FnExactGuardAnswers.mono_l k
  refine ⟨?_, ?_, ?_⟩
  ·intro y0 y1 y2 y3 y4 y5 y6 y7 y8 y9 y10 y11 y12
   unfold laws_FnExactGuardAnswers.j0
   repeat' first
   | (with_reducible exact ih0 _ _ _ _ _ _ _ _ _ _ _ _ _)
   | (with_reducible exact ih1 _ _ _ _ _ _ _ _ _)
   | (with_reducible exact ih2 _ _ _)
   | (with_reducible exact impl_GuardAnswers.mono _ _ _ _ _ _)
   | (with_reducible exact laws_eqGraph.mono _ _ _ _ _)
   | (with_reducible exact laws_eqIntS.mono _ _ _)
   | (with_reducible exact laws_eqIntSS.mono _ _ _)
   | (with_reducible exact laws_heldIntSS.mono _ _ _)
   | (with_reducible exact laws_markIntS.mono _ _ _)
   | (with_reducible exact laws_markIntSS.mono _ _ _)
   | (with_reducible exact laws_toGraph.mono _ _ _)
   | (with_reducible exact laws_toIntS.mono _ _)
   | (with_reducible exact spec_GuardAnswers.mono _ _ _ _ _ _)
   | (with_reducible exact LeO.refl _)
   | (with_reducible exact LeO.none _)
   | (with_reducible refine LeO.ite ?_ ?_)
   | (with_reducible refine LeO.bind ?_ (fun _ => ?_))
   | exact LeO.none _
   | refine LeO.ite ?_ ?_
   | refine LeO.bind ?_ (fun _ => ?_)
  ·intro y0 y1 y2 y3 y4 y5 y6 y7 y8
   unfold laws_FnExactGuardAnswers.j1
   repeat' first
   | (with_reducible exact ih0 _ _ _ _ _ _ _ _ _ _ _ _ _)
   | (with_reducible exact ih1 _ _ _ _ _ _ _ _ _)
   | (with_reducible exact ih2 _ _ _)
   | (with_reducible exact impl_GuardAnswers.mono _ _ _ _ _ _)
   | (with_reducible exact laws_eqGraph.mono _ _ _ _ _)
   | (with_reducible exact laws_eqIntS.mono _ _ _)
   | (with_reducible exact laws_eqIntSS.mono _ _ _)
   | (with_reducible exact laws_heldIntSS.mono _ _ _)
   | (with_reducible exact laws_markIntS.mono _ _ _)
   | (with_reducible exact laws_markIntSS.mono _ _ _)
   | (with_reducible exact laws_toGraph.mono _ _ _)
   | (with_reducible exact laws_toIntS.mono _ _)
   | (with_reducible exact spec_GuardAnswers.mono _ _ _ _ _ _)
   | (with_reducible exact LeO.refl _)
   | (with_reducible exact LeO.none _)
   | (with_reducible refine LeO.ite ?_ ?_)
   | (with_reducible refine LeO.bind ?_ (fun _ => ?_))
   | exact LeO.none _
   | refine LeO.ite ?_ ?_
   | refine LeO.bind ?_ (fun _ => ?_)
  ·intro y0 y1 y2
   unfold laws_FnExactGuardAnswers.j2
   repeat' first
   | (with_reducible exact ih0 _ _ _ _ _ _ _ _ _ _ _ _ _)
   | (with_reducible exact ih1 _ _ _ _ _ _ _ _ _)
   | (with_reducible exact ih2 _ _ _)
   | (with_reducible exact impl_GuardAnswers.mono _ _ _ _ _ _)
   | (with_reducible exact laws_eqGraph.mono _ _ _ _ _)
   | (with_reducible exact laws_eqIntS.mono _ _ _)
   | (with_reducible exact laws_eqIntSS.mono _ _ _)
   | (with_reducible exact laws_heldIntSS.mono _ _ _)
   | (with_reducible exact laws_markIntS.mono _ _ _)
   | (with_reducible exact laws_markIntSS.mono _ _ _)
   | (with_reducible exact laws_toGraph.mono _ _ _)
   | (with_reducible exact laws_toIntS.mono _ _)
   | (with_reducible exact spec_GuardAnswers.mono _ _ _ _ _ _)
   | (with_reducible exact LeO.refl _)
   | (with_reducible exact LeO.none _)
   | (with_reducible refine LeO.ite ?_ ?_)
   | (with_reducible refine LeO.bind ?_ (fun _ => ?_))
   | exact LeO.none _
   | refine LeO.ite ?_ ?_
   | refine LeO.bind ?_ (fun _ => ?_)
theorem laws_FnExactGuardAnswers.mono : ∀ a0 a1 a2 a3 a4 k, LeO (laws_FnExactGuardAnswers.f k a0 a1 a2 a3 a4) (laws_FnExactGuardAnswers.f (k + 1) a0 a1 a2 a3 a4) := by
 intro a0 a1 a2 a3 a4 k
 obtain ⟨ih0, ih1, ih2⟩ := laws_FnExactGuardAnswers.mono_l k
 unfold laws_FnExactGuardAnswers.f
 repeat' first
   | (with_reducible exact ih0 _ _ _ _ _ _ _ _ _ _ _ _ _)
   | (with_reducible exact ih1 _ _ _ _ _ _ _ _ _)
   | (with_reducible exact ih2 _ _ _)
   | (with_reducible exact impl_GuardAnswers.mono _ _ _ _ _ _)
   | (with_reducible exact laws_eqGraph.mono _ _ _ _ _)
   | (with_reducible exact laws_eqIntS.mono _ _ _)
   | (with_reducible exact laws_eqIntSS.mono _ _ _)
   | (with_reducible exact laws_heldIntSS.mono _ _ _)
   | (with_reducible exact laws_markIntS.mono _ _ _)
   | (with_reducible exact laws_markIntSS.mono _ _ _)
   | (with_reducible exact laws_toGraph.mono _ _ _)
   | (with_reducible exact laws_toIntS.mono _ _)
   | (with_reducible exact spec_GuardAnswers.mono _ _ _ _ _ _)
   | (with_reducible exact LeO.refl _)
   | (with_reducible exact LeO.none _)
   | (with_reducible refine LeO.ite ?_ ?_)
   | (with_reducible refine LeO.bind ?_ (fun _ => ?_))
   | exact LeO.none _
   | refine LeO.ite ?_ ?_
   | refine LeO.bind ?_ (fun _ => ?_)
set_option maxHeartbeats 8000000 in
set_option maxRecDepth 100000 in
theorem laws_FnExactGuardAnswers.calls (k : Nat) (a0_0 : Int) (A0_1 : Option Addr) (c0_1 : Nat) (l0_1 : List (S92)) (A1 : Option Addr) (c1 : Nat) (l1 : List Int) (a2 : Int) (a3 : Bool) (r : Bool) (w : World) (hT : TabG w) (hr0_1 : Kd.C k92 w A0_1 l0_1.length l0_1) (hc0_1 : l0_1.length ≤ c0_1) (hr1 : Kd.C (Kd.int .i64) w A1 l1.length l1) (hc1 : l1.length ≤ c1) (h : laws_FnExactGuardAnswers.f k a0_0 l0_1 l1 a2 a3 = some r) :
  Calls Tryd.prog 9 #[.agg #[.int .i64 a0_0, .slice A0_1 l0_1.length c0_1], .slice A1 l1.length c1, .int .i64 a2, .bool a3] w fun e w' => e = .returned (.bool r) ∧ Below w.heap.size w w' := by
 have hu24 := Tryd.underlying24
 have hu28 := Tryd.underlying28
 have HR0_1 := Aside0.mk hr0_1
 have HC0_1 := Aside0.mk hc0_1
 clear hr0_1 hc0_1
 have HR1 := Aside0.mk hr1
 have HC1 := Aside0.mk hc1
 clear hr1 hc1
 have HB := aM (Below.refl w.heap.size w)
 have HT := Aside0.mk hT
 clear hT
 have H : (if (l1.length : Int) > 1048576 then (some true) else ((laws_szGraph.f a0_0 l0_1 1048576).bind fun t468 => (if t468 < 0 then (some true) else ((laws_toGraph.f k a0_0 l0_1).bind fun bt469 => ((laws_toIntS.f k l1).bind fun t473 => ((spec_GuardAnswers.f k bt469.1 bt469.2 t473 a2 a3).bind fun bt476 => ((laws_toGraph.f k a0_0 l0_1).bind fun bt480 => ((laws_toIntS.f k l1).bind fun t485 => ((impl_GuardAnswers.f k bt480.1 bt480.2 t485 a2 a3).bind fun bt488 => ((laws_eqIntSS.f k bt488.1 bt476.1).bind fun t492 => (if t492 = true then (laws_FnExactGuardAnswers.j0 k l1 a2 a3 bt476.1 bt476.2 t485 bt488.1 bt488.2 (bt488.2 != bt476.2) a0_0 l0_1 bt480.1 bt480.2) else (laws_FnExactGuardAnswers.j0 k l1 a2 a3 bt476.1 bt476.2 t485 bt488.1 bt488.2 true a0_0 l0_1 bt480.1 bt480.2)))))))))))) = some r := h
 clear h
 by_cases c5 : (l1.length : Int) > 1048576
 ·rw [if_pos c5] at H
  have c5b0 : decide (1048576 < (l1.length : Int)) = true := decide_eq_true c5
  have c5b1 : decide (1048576 < l1.length) = true := decide_eq_true (by omega)
  clear c5
  obtain rfl := Option.some.inj H
  go_enter Tryd.func9, Tryd.ntmps9
  go_wp2_with (first | ((with_reducible refine gate_dst (N := 4) rfl ?_);refine box_event ?hg (N := 4) ?hd (cs := #[.int .i64 a0_0, .slice A0_1 l0_1.length c0_1]) (t := 24) ?hr ?_;(case hd => rfl);(case hg => rfl);(case hr => first | (go_simp;done) | (go_simp;rfl));intro gb467 hg w6 hbox hb;have n0_ := aM (below_step (by exact bB) hb);have n1_ := aM (hbox);have n2_ := aM (sW hg : w.heap.size ≤ gb467);have n3_ := aM (sW hg : w.heap.size ≤ gb467);clear HB;have HB := n0_;have BK467 := n1_;have GW467 := n2_;have GE467 := n3_;clear n0_ n1_ n2_ n3_;clear hb hbox hg))
  go_ret
  exact ⟨by first | rfl | (simp [errW_none, errW_some] <;> rfl) | (simp [*, errW_none, errW_some] <;> rfl), by exact bB⟩
 rw [if_neg c5] at H
 have c5b0 : decide (1048576 < (l1.length : Int)) = false := decide_eq_false c5
 have c5b1 : decide (1048576 < l1.length) = false := decide_eq_false (by omega)
 clear c5
 replace H := Option.bind_eq_some_iff.mp H
 obtain ⟨t468, A70, H⟩ := H
 replace H : (if t468 < 0 then (some true) else ((laws_toGraph.f k a0_0 l0_1).bind fun bt469 => ((laws_toIntS.f k l1).bind fun t473 => ((spec_GuardAnswers.f k bt469.1 bt469.2 t473 a2 a3).bind fun bt476 => ((laws_toGraph.f k a0_0 l0_1).bind fun bt480 => ((laws_toIntS.f k l1).bind fun t485 => ((impl_GuardAnswers.f k bt480.1 bt480.2 t485 a2 a3).bind fun bt488 => ((laws_eqIntSS.f k bt488.1 bt476.1).bind fun t492 => (if t492 = true then (laws_FnExactGuardAnswers.j0 k l1 a2 a3 bt476.1 bt476.2 t485 bt488.1 bt488.2 (bt488.2 != bt476.2) a0_0 l0_1 bt480.1 bt480.2) else (laws_FnExactGuardAnswers.j0 k l1 a2 a3 bt476.1 bt476.2 t485 bt488.1 bt488.2 true a0_0 l0_1 bt480.1 bt480.2)))))))))) = some r := H
 have A7 := Aside0.mk A70
 clear A70
 by_cases c8 : t468 < 0
 ·rw [if_pos c8] at H
  have c8b0 : decide (t468 < 0) = true := decide_eq_true c8
  clear c8
  obtain rfl := Option.some.inj H
  go_enter Tryd.func9, Tryd.ntmps9
  go_wp2_with (first | ((with_reducible refine gate_dst (N := 4) rfl ?_);refine box_event ?hg (N := 4) ?hd (cs := #[.int .i64 a0_0, .slice A0_1 l0_1.length c0_1]) (t := 24) ?hr ?_;(case hd => rfl);(case hg => rfl);(case hr => first | (go_simp;done) | (go_simp;rfl));intro gb467 hg w9 hbox hb;have n0_ := aM (below_step (by exact bB) hb);have n1_ := aM (hbox);have n2_ := aM (sW hg : w.heap.size ≤ gb467);have n3_ := aM (sW hg : w.heap.size ≤ gb467);clear HB;have HB := n0_;have BK467 := n1_;have GW467 := n2_;have GE467 := n3_;clear n0_ n1_ n2_ n3_;clear hb hbox hg;have hcz10_0 := bC0 BK467.out;have hcz10_1 := bC1 BK467.out;have hfz10_0 := blk_frozen BK467.out 0;have hfz10_1 := blk_frozen BK467.out 1) | ((with_reducible refine gate_callee (f := 11) rfl ?_);refine goesL_ (some 26) rfl rfl Tryd.func11 (by kernel_rfl) rfl #[.agg #[.int .i64 a0_0, .slice A0_1 l0_1.length c0_1], .int .i64 1048576] rfl mM ?_;(with_reducible refine (laws_szGraph.calls a0_0 _ _ l0_1 1048576 t468 _ ?side1 ?side2 A7.out).mono ?_);(case side1 => exact cP (Kd.C_below HR0_1.out HB.out));(case side2 => exact HC0_1.out);rintro e w11 ⟨rfl, hb⟩;refine ⟨_, rfl, ?_⟩;have n0_ := aM (kB hb BK467.out);have n1_ := aM (below_step (by exact bB) hb);clear BK467;clear HB;have BK467 := n0_;have HB := n1_;clear n0_ n1_;(try clear hb);(try clear hb2);(try clear hk);(try clear hi)))
  go_ret
  exact ⟨by first | rfl | (simp [errW_none, errW_some] <;> rfl) | (simp [*, errW_none, errW_some] <;> rfl), by exact bB⟩
 rw [if_neg c8] at H
 have c8b0 : decide (t468 < 0) = false := decide_eq_false c8
 clear c8
 replace H := Option.bind_eq_some_iff.mp H
 obtain ⟨⟨t469, t470⟩, A120, H⟩ := H
 replace H : ((laws_toIntS.f k l1).bind fun t473 => ((spec_GuardAnswers.f k t469 t470 t473 a2 a3).bind fun bt476 => ((laws_toGraph.f k a0_0 l0_1).bind fun bt480 => ((laws_toIntS.f k l1).bind fun t485 => ((impl_GuardAnswers.f k bt480.1 bt480.2 t485 a2 a3).bind fun bt488 => ((laws_eqIntSS.f k bt488.1 bt476.1).bind fun t492 => (if t492 = true then (laws_FnExactGuardAnswers.j0 k l1 a2 a3 bt476.1 bt476.2 t485 bt488.1 bt488.2 (bt488.2 != bt476.2) a0_0 l0_1 bt480.1 bt480.2) else (laws_FnExactGuardAnswers.j0 k l1 a2 a3 bt476.1 bt476.2 t485 bt488.1 bt488.2 true a0_0 l0_1 bt480.1 bt480.2)))))))) = some r := H
 have A12 := Aside0.mk A120
 clear A120
 replace H := Option.bind_eq_some_iff.mp H
 obtain ⟨t473, A130, H⟩ := H
 replace H : ((spec_GuardAnswers.f k t469 t470 t473 a2 a3).bind fun bt476 => ((laws_toGraph.f k a0_0 l0_1).bind fun bt480 => ((laws_toIntS.f k l1).bind fun t485 => ((impl_GuardAnswers.f k bt480.1 bt480.2 t485 a2 a3).bind fun bt488 => ((laws_eqIntSS.f k bt488.1 bt476.1).bind fun t492 => (if t492 = true then (laws_FnExactGuardAnswers.j0 k l1 a2 a3 bt476.1 bt476.2 t485 bt488.1 bt488.2 (bt488.2 != bt476.2) a0_0 l0_1 bt480.1 bt480.2) else (laws_FnExactGuardAnswers.j0 k l1 a2 a3 bt476.1 bt476.2 t485 bt488.1 bt488.2 true a0_0 l0_1 bt480.1 bt480.2))))))) = some r := H
 have A13 := Aside0.mk A130
 clear A130
 replace H := Option.bind_eq_some_iff.mp H
 obtain ⟨⟨t476, t479⟩, A140, H⟩ := H
 replace H : ((laws_toGraph.f k a0_0 l0_1).bind fun bt480 => ((laws_toIntS.f k l1).bind fun t485 => ((impl_GuardAnswers.f k bt480.1 bt480.2 t485 a2 a3).bind fun bt488 => ((laws_eqIntSS.f k bt488.1 t476).bind fun t492 => (if t492 = true then (laws_FnExactGuardAnswers.j0 k l1 a2 a3 t476 t479 t485 bt488.1 bt488.2 (bt488.2 != t479) a0_0 l0_1 bt480.1 bt480.2) else (laws_FnExactGuardAnswers.j0 k l1 a2 a3 t476 t479 t485 bt488.1 bt488.2 true a0_0 l0_1 bt480.1 bt480.2)))))) = some r := H
 have A14 := Aside0.mk A140
 clear A140
 replace H := Option.bind_eq_some_iff.mp H
 obtain ⟨⟨t480, t481⟩, A150, H⟩ := H
 replace H : ((laws_toIntS.f k l1).bind fun t485 => ((impl_GuardAnswers.f k t480 t481 t485 a2 a3).bind fun bt488 => ((laws_eqIntSS.f k bt488.1 t476).bind fun t492 => (if t492 = true then (laws_FnExactGuardAnswers.j0 k l1 a2 a3 t476 t479 t485 bt488.1 bt488.2 (bt488.2 != t479) a0_0 l0_1 t480 t481) else (laws_FnExactGuardAnswers.j0 k l1 a2 a3 t476 t479 t485 bt488.1 bt488.2 true a0_0 l0_1 t480 t481))))) = some r := H
 have A15 := Aside0.mk A150
 clear A150
 replace H := Option.bind_eq_some_iff.mp H
 obtain ⟨t485, A160, H⟩ := H
 replace H : ((impl_GuardAnswers.f k t480 t481 t485 a2 a3).bind fun bt488 => ((laws_eqIntSS.f k bt488.1 t476).bind fun t492 => (if t492 = true then (laws_FnExactGuardAnswers.j0 k l1 a2 a3 t476 t479 t485 bt488.1 bt488.2 (bt488.2 != t479) a0_0 l0_1 t480 t481) else (laws_FnExactGuardAnswers.j0 k l1 a2 a3 t476 t479 t485 bt488.1 bt488.2 true a0_0 l0_1 t480 t481)))) = some r := H
 have A16 := Aside0.mk A160
 clear A160
 replace H := Option.bind_eq_some_iff.mp H
 obtain ⟨⟨t488, t491⟩, A170, H⟩ := H
 replace H : ((laws_eqIntSS.f k t488 t476).bind fun t492 => (if t492 = true then (laws_FnExactGuardAnswers.j0 k l1 a2 a3 t476 t479 t485 t488 t491 (t491 != t479) a0_0 l0_1 t480 t481) else (laws_FnExactGuardAnswers.j0 k l1 a2 a3 t476 t479 t485 t488 t491 true a0_0 l0_1 t480 t481))) = some r := H
 have A17 := Aside0.mk A170
 clear A170
 have HC18 := Aside0.mk H
 clear H
 go_enter Tryd.func9, Tryd.ntmps9
 go_upto_region 11 with (first | ((with_reducible refine gate_dst (N := 4) rfl ?_);refine box_event ?hg (N := 4) ?hd (cs := #[.int .i64 a0_0, .slice A0_1 l0_1.length c0_1]) (t := 24) ?hr ?_;(case hd => rfl);(case hg => rfl);(case hr => first | (go_simp;done) | (go_simp;rfl));intro gb467 hg w19 hbox hb;have n0_ := aM (below_step (by exact bB) hb);have n1_ := aM (hbox);have n2_ := aM (sW hg : w.heap.size ≤ gb467);have n3_ := aM (sW hg : w.heap.size ≤ gb467);clear HB;have HB := n0_;have BK467 := n1_;have GW467 := n2_;have GE467 := n3_;clear n0_ n1_ n2_ n3_;clear hb hbox hg;have hcz20_0 := bC0 BK467.out;have hcz20_1 := bC1 BK467.out;have hfz20_0 := blk_frozen BK467.out 0;have hfz20_1 := blk_frozen BK467.out 1) | ((with_reducible refine gate_callee (f := 11) rfl ?_);refine goesL_ (some 26) rfl rfl Tryd.func11 (by kernel_rfl) rfl #[.agg #[.int .i64 a0_0, .slice A0_1 l0_1.length c0_1], .int .i64 1048576] rfl mM ?_;(with_reducible refine (laws_szGraph.calls a0_0 _ _ l0_1 1048576 t468 _ ?side1 ?side2 A7.out).mono ?_);(case side1 => exact cP (Kd.C_below HR0_1.out HB.out));(case side2 => exact HC0_1.out);rintro e w21 ⟨rfl, hb⟩;refine ⟨_, rfl, ?_⟩;have n0_ := aM (kB hb BK467.out);have n1_ := aM (below_step (by exact bB) hb);clear BK467;clear HB;have BK467 := n0_;have HB := n1_;clear n0_ n1_;(try clear hb);(try clear hb2);(try clear hk);(try clear hi);have hcz22_0 := bC0 BK467.out;have hcz22_1 := bC1 BK467.out;have hfz22_0 := blk_frozen BK467.out 0;have hfz22_1 := blk_frozen BK467.out 1) | ((with_reducible refine gate_callee (f := 13) rfl ?_);refine goesL_ (some 31) rfl rfl Tryd.func13 (by kernel_rfl) rfl #[.agg #[.int .i64 a0_0, .slice A0_1 l0_1.length c0_1]] rfl mM ?_;(with_reducible refine (laws_toGraph.calls k a0_0 _ _ l0_1 t469 t470 _ ?side1 ?side2 A12.out).mono ?_);(case side1 => exact cP (Kd.C_below HR0_1.out HB.out));(case side2 => exact HC0_1.out);rintro e w23 ⟨v471, rfl, ho0, hb⟩;refine ⟨_, rfl, ?_⟩;have n0_ := aM (Kd.R_lower ho0 (below_size (by exact bB)));have n1_ := aM (kB hb BK467.out);have n2_ := aM (below_step (by exact bB) hb);clear BK467;clear HB;have HO472 := n0_;have BK467 := n1_;have HB := n2_;clear n0_ n1_ n2_;(try clear hb);(try clear hb2);(try clear hk);(try clear hi);(try clear ho0)) | ((with_reducible refine gate_callee (f := 17) rfl ?_);refine goesL_ (some 33) rfl rfl Tryd.func17 (by kernel_rfl) rfl #[.slice A1 l1.length c1] rfl mM ?_;(with_reducible refine (laws_toIntS.calls k _ _ l1 t473 _ ?side1 ?side2 A13.out).mono ?_);(case side1 => exact cP (Kd.C_below HR1.out HB.out));(case side2 => exact HC1.out);rintro e w24 ⟨v474, rfl, ho0, hb⟩;refine ⟨_, rfl, ?_⟩;have n0_ := aM (Kd.R_below (by (with_reducible repeat (first | apply Kd.R_alloc | apply Kd.S_alloc | apply Kd.N_alloc | apply Kd.R_drewN | apply Kd.S_drewN | apply Kd.N_drewN | apply Kd.R_drew | apply Kd.S_drew | apply Kd.N_drew));exact HO472.out) hb);have n1_ := aM (Kd.R_lower ho0 (below_size (by exact bB)));have n2_ := aM (kB hb BK467.out);have n3_ := aM (below_step (by exact bB) hb);clear HO472;clear BK467;clear HB;have HO472 := n0_;have HO475 := n1_;have BK467 := n2_;have HB := n3_;clear n0_ n1_ n2_ n3_;(try clear hb);(try clear hb2);(try clear hk);(try clear hi);(try clear ho0);obtain ⟨Ao25, co25, eo25⟩ := Kd.R_slice HO472.out;subst eo25;obtain ⟨Ao26, co26, eo26⟩ := Kd.R_slice HO475.out;subst eo26) | ((with_reducible refine gate_callee (f := 36) rfl ?_);refine goesL_ (some 36) rfl rfl Tryd.func36 (by kernel_rfl) rfl #[.agg #[.int .i64 t469, .slice Ao25 t470.length co25], .slice Ao26 t473.length co26, .int .i64 a2, .bool a3] rfl mM ?_;(with_reducible refine (spec_GuardAnswers.calls k t469 _ _ t470 _ _ t473 a2 a3 t476 t479 _ ?side1 ?side2 ?side3 ?side4 A14.out).mono ?_);(case side1 => exact cP (Kd.R_reads' HO472.out).2.2);(case side2 => exact (Kd.R_reads' HO472.out).2.1);(case side3 => exact cP (Kd.R_reads' HO475.out).2.2);(case side4 => exact (Kd.R_reads' HO475.out).2.1);rintro e w27 ⟨v477, rfl, ho0, hb⟩;refine ⟨_, rfl, ?_⟩;have n0_ := aM (Kd.R_below (by (with_reducible repeat (first | apply Kd.R_alloc | apply Kd.S_alloc | apply Kd.N_alloc | apply Kd.R_drewN | apply Kd.S_drewN | apply Kd.N_drewN | apply Kd.R_drew | apply Kd.S_drew | apply Kd.N_drew));exact HO472.out) hb);have n1_ := aM (Kd.R_below (by (with_reducible repeat (first | apply Kd.R_alloc | apply Kd.S_alloc | apply Kd.N_alloc | apply Kd.R_drewN | apply Kd.S_drewN | apply Kd.N_drewN | apply Kd.R_drew | apply Kd.S_drew | apply Kd.N_drew));exact HO475.out) hb);have n2_ := aM (Kd.N_lower ho0 (below_size (by exact bB)));have n3_ := aM (kB hb BK467.out);have n4_ := aM (below_step (by exact bB) hb);clear HO472;clear HO475;clear BK467;clear HB;have HO472 := n0_;have HO475 := n1_;have HO478 := n2_;have BK467 := n3_;have HB := n4_;clear n0_ n1_ n2_ n3_ n4_;(try clear hb);(try clear hb2);(try clear hk);(try clear hi);(try clear ho0);have hcz28_0 := bC0 BK467.out;have hcz28_1 := bC1 BK467.out;have hfz28_0 := blk_frozen BK467.out 0;have hfz28_1 := blk_frozen BK467.out 1) | ((with_reducible refine gate_callee (f := 13) rfl ?_);refine goesL_ (some 40) rfl rfl Tryd.func13 (by kernel_rfl) rfl #[.agg #[.int .i64 a0_0, .slice A0_1 l0_1.length c0_1]] rfl mM ?_;(with_reducible refine (laws_toGraph.calls k a0_0 _ _ l0_1 t480 t481 _ ?side1 ?side2 A15.out).mono ?_);(case side1 => exact cP (Kd.C_below HR0_1.out HB.out));(case side2 => exact HC0_1.out);rintro e w29 ⟨v482, rfl, ho0, hb⟩;refine ⟨_, rfl, ?_⟩;have n0_ := aM (Kd.R_elder' (by (with_reducible repeat (first | apply Kd.R_alloc | apply Kd.S_alloc | apply Kd.N_alloc | apply Kd.R_drewN | apply Kd.S_drewN | apply Kd.N_drewN | apply Kd.R_drew | apply Kd.S_drew | apply Kd.N_drew));exact HO472.out) (Kd.R_base ho0) hb);have n1_ := aM (Kd.R_below (by (with_reducible repeat (first | apply Kd.R_alloc | apply Kd.S_alloc | apply Kd.N_alloc | apply Kd.R_drewN | apply Kd.S_drewN | apply Kd.N_drewN | apply Kd.R_drew | apply Kd.S_drew | apply Kd.N_drew));exact HO475.out) hb);have n2_ := aM (Kd.N_elder' (by (with_reducible repeat (first | apply Kd.R_alloc | apply Kd.S_alloc | apply Kd.N_alloc | apply Kd.R_drewN | apply Kd.S_drewN | apply Kd.N_drewN | apply Kd.R_drew | apply Kd.S_drew | apply Kd.N_drew));exact HO478.out) (Kd.R_base ho0) hb);have n3_ := aM (Kd.R_lower (Kd.R_new' ho0 (Kd.R_lt (by (with_reducible repeat (first | apply Kd.R_alloc | apply Kd.S_alloc | apply Kd.N_alloc | apply Kd.R_drewN | apply Kd.S_drewN | apply Kd.N_drewN | apply Kd.R_drew | apply Kd.S_drew | apply Kd.N_drew));exact HO472.out))) (below_size (by exact bB)));have n4_ := aM (kB hb BK467.out);have n5_ := aM (below_step (by exact bB) hb);clear HO472;clear HO475;clear HO478;clear BK467;clear HB;have HO472 := n0_;have HO475 := n1_;have HO478 := n2_;have HO483 := n3_;have BK467 := n4_;have HB := n5_;clear n0_ n1_ n2_ n3_ n4_ n5_;(try clear hb);(try clear hb2);(try clear hk);(try clear hi);(try clear ho0)) | ((with_reducible refine gate_dst (N := 12) rfl ?_);refine box_event ?hg (N := 12) ?hd (cs := #[.int .i64 0, .slice none 0 0]) (t := 28) ?hr ?_;(case hd => rfl);(case hg => rfl);(case hr => first | (go_simp;done) | (go_simp;rfl));intro gb484 hg w30 hbox hb;have n0_ := aM (Kd.R_below (by (with_reducible repeat (first | apply Kd.R_alloc | apply Kd.S_alloc | apply Kd.N_alloc | apply Kd.R_drewN | apply Kd.S_drewN | apply Kd.N_drewN | apply Kd.R_drew | apply Kd.S_drew | apply Kd.N_drew));exact HO472.out) hb);have n1_ := aM (Kd.R_below (by (with_reducible repeat (first | apply Kd.R_alloc | apply Kd.S_alloc | apply Kd.N_alloc | apply Kd.R_drewN | apply Kd.S_drewN | apply Kd.N_drewN | apply Kd.R_drew | apply Kd.S_drew | apply Kd.N_drew));exact HO475.out) hb);have n2_ := aM (Kd.N_below (Kd.N_elderB (by (with_reducible repeat (first | apply Kd.R_alloc | apply Kd.S_alloc | apply Kd.N_alloc | apply Kd.R_drewN | apply Kd.S_drewN | apply Kd.N_drewN | apply Kd.R_drew | apply Kd.S_drew | apply Kd.N_drew));exact HO478.out) gb484 (by rw [hg];exact Nat.le_refl _)) hb);have n3_ := aM (Kd.R_below (by (with_reducible repeat (first | apply Kd.R_alloc | apply Kd.S_alloc | apply Kd.N_alloc | apply Kd.R_drewN | apply Kd.S_drewN | apply Kd.N_drewN | apply Kd.R_drew | apply Kd.S_drew | apply Kd.N_drew));exact HO483.out) hb);have n4_ := aM (kB hb BK467.out);have n5_ := aM (below_step (by exact bB) hb);have n6_ := aM (hbox);have n7_ := aM (sW hg : w.heap.size ≤ gb484);have n8_ := aM (sW hg : w.heap.size ≤ gb484);have n9_ := aM (nL hg (kP BK467.out));have n10_ := aM (nG hg (kP BK467.out));clear HO472;clear HO475;clear HO478;clear HO483;clear BK467;clear HB;have HO472 := n0_;have HO475 := n1_;have HO478 := n2_;have HO483 := n3_;have BK467 := n4_;have HB := n5_;have BK484 := n6_;have GW484 := n7_;have GE484 := n8_;have NB467_484 := n9_;have NB484_467 := n10_;clear n0_ n1_ n2_ n3_ n4_ n5_ n6_ n7_ n8_ n9_ n10_;clear hb hbox hg;have hnb31 := NB484_467.out;have hnc31 := NB467_484.out;have hcz32_0 := bC0 BK484.out;have hcz32_1 := bC1 BK484.out;have hfz32_0 := blk_frozen BK484.out 0;have hfz32_1 := blk_frozen BK484.out 1;obtain ⟨Ao33, co33, eo33⟩ := Kd.R_slice HO483.out;subst eo33) | ((with_reducible refine gate_callee (f := 17) rfl ?_);refine goesL_ (some 42) rfl rfl Tryd.func17 (by kernel_rfl) rfl #[.slice A1 l1.length c1] rfl mM ?_;(with_reducible refine (laws_toIntS.calls k _ _ l1 t485 _ ?side1 ?side2 A16.out).mono ?_);(case side1 => exact Kd.C_below HR1.out (by exact bB));(case side2 => exact HC1.out);rintro e w34 ⟨v486, rfl, ho0, hb⟩;refine ⟨_, rfl, ?_⟩;have n0_ := aM (Kd.R_below (by (with_reducible repeat (first | apply Kd.R_alloc | apply Kd.S_alloc | apply Kd.N_alloc | apply Kd.R_drewN | apply Kd.S_drewN | apply Kd.N_drewN | apply Kd.R_drew | apply Kd.S_drew | apply Kd.N_drew));exact (Kd.R_mono (Kd.R_far (p := ⟨gb484, 1, none⟩) (Kd.R_far (p := ⟨gb484, 0, none⟩) (Kd.R_types HO472.out BK484.out (by decide)) (fun _ hk => hk.2) (.int .i64 t480)) (fun _ hk => hk.2) (.slice Ao33 t481.length co33)) (fun _ h_ => h_.1))) hb);have n1_ := aM (Kd.R_elder' (by (with_reducible repeat (first | apply Kd.R_alloc | apply Kd.S_alloc | apply Kd.N_alloc | apply Kd.R_drewN | apply Kd.S_drewN | apply Kd.N_drewN | apply Kd.R_drew | apply Kd.S_drew | apply Kd.N_drew));exact (Kd.R_mono (Kd.R_far (p := ⟨gb484, 1, none⟩) (Kd.R_far (p := ⟨gb484, 0, none⟩) (Kd.R_types HO475.out BK484.out (by decide)) (fun _ hk => hk.2) (.int .i64 t480)) (fun _ hk => hk.2) (.slice Ao33 t481.length co33)) (fun _ h_ => h_.1))) (Kd.R_base ho0) hb);have n2_ := aM (Kd.N_elder' (by (with_reducible repeat (first | apply Kd.R_alloc | apply Kd.S_alloc | apply Kd.N_alloc | apply Kd.R_drewN | apply Kd.S_drewN | apply Kd.N_drewN | apply Kd.R_drew | apply Kd.S_drew | apply Kd.N_drew));exact (Kd.N_mono (ok' := fun k_ => True ∧ some k_ ≠ (.slice Ao33 t481.length co33 : Value).ownBlock) (Kd.N_far (p := ⟨gb484, 1, none⟩) (Kd.N_far (p := ⟨gb484, 0, none⟩) HO478.out (fun _ hk => hk.2) (.int .i64 t480)) (fun _ hk => hk.2) (.slice Ao33 t481.length co33)) (fun _ h_ => ⟨trivial, h_.1.2⟩))) (Kd.R_base ho0) hb);have n3_ := aM (Kd.R_below (by (with_reducible repeat (first | apply Kd.R_alloc | apply Kd.S_alloc | apply Kd.N_alloc | apply Kd.R_drewN | apply Kd.S_drewN | apply Kd.N_drewN | apply Kd.R_drew | apply Kd.S_drew | apply Kd.N_drew));exact (Kd.R_mono (Kd.R_far (p := ⟨gb484, 1, none⟩) (Kd.R_far (p := ⟨gb484, 0, none⟩) (Kd.R_types HO483.out BK484.out (by decide)) (fun _ hk => hk.2) (.int .i64 t480)) (fun _ hk => hk.2) (.slice Ao33 t481.length co33)) (fun _ h_ => h_.1))) hb);have n4_ := aM (Kd.R_lower (Kd.R_new' ho0 (Kd.R_lt (by (with_reducible repeat (first | apply Kd.R_alloc | apply Kd.S_alloc | apply Kd.N_alloc | apply Kd.R_drewN | apply Kd.S_drewN | apply Kd.N_drewN | apply Kd.R_drew | apply Kd.S_drew | apply Kd.N_drew));exact (Kd.R_mono (Kd.R_far (p := ⟨gb484, 1, none⟩) (Kd.R_far (p := ⟨gb484, 0, none⟩) (Kd.R_types HO475.out BK484.out (by decide)) (fun _ hk => hk.2) (.int .i64 t480)) (fun _ hk => hk.2) (.slice Ao33 t481.length co33)) (fun _ h_ => h_.1))))) (below_size (by exact bB)));have n5_ := aM (blk_below (g := gb467) (o := .cells #[.int .i64 a0_0, .slice A0_1 l0_1.length c0_1] 24 (0, 0)) (by refine kP ?_;refine blk_far ?_ NB467_484.out _;refine kP ?_;refine blk_far ?_ NB467_484.out _;exact kP BK467.out) hb);have n6_ := aM (blk_below (g := gb484) (o := .cells #[.int .i64 t480, .slice Ao33 t481.length co33] 28 (0, 0)) (by refine kP ?_;refine blk_put (cs := #[.int .i64 t480, .slice none 0 0]) ?_ 1 _ rfl;refine kP ?_;refine blk_put (cs := #[.int .i64 0, .slice none 0 0]) ?_ 0 _ rfl;exact kP BK484.out) hb);have n7_ := aM (below_step (by exact bB) hb);clear HO472;clear HO475;clear HO478;clear HO483;clear BK467;clear BK484;clear HB;have HO472 := n0_;have HO475 := n1_;have HO478 := n2_;have HO483 := n3_;have HO487 := n4_;have BK467 := n5_;have BK484 := n6_;have HB := n7_;clear n0_ n1_ n2_ n3_ n4_ n5_ n6_ n7_;(try clear hb);(try clear hb2);(try clear hk);(try clear hi);(try clear ho0);have hcz35_0 := bC0 BK484.out;have hcz35_1 := bC1 BK484.out;have hfz35_0 := blk_frozen BK484.out 0;have hfz35_1 := blk_frozen BK484.out 1;obtain ⟨Ao36, co36, eo36⟩ := Kd.R_slice HO487.out;subst eo36) | ((with_reducible refine gate_callee (f := 37) rfl ?_);refine goesL_ (some 48) rfl rfl Tryd.func37 (by kernel_rfl) rfl #[.agg #[.int .i64 t480, .slice Ao33 t481.length co33], .slice Ao36 t485.length co36, .int .i64 a2, .bool a3] rfl mM ?_;(with_reducible refine (impl_GuardAnswers.calls k t480 _ _ t481 _ _ t485 a2 a3 t488 t491 _ ?sideT ?side1 ?side2 ?side3 ?side4 A17.out).mono ?_);(case sideT => exact tabG_below HT.out (by exact bB));(case side1 => exact cP (Kd.R_reads' HO483.out).2.2);(case side2 => exact (Kd.R_reads' HO483.out).2.1);(case side3 => exact cP (Kd.R_reads' HO487.out).2.2);(case side4 => exact (Kd.R_reads' HO487.out).2.1);rintro e w37 ⟨v489, rfl, ho0, hb⟩;refine ⟨_, rfl, ?_⟩;obtain ⟨P9_, hp9_⟩ := mine9_old hb;have n0_ := aM (Kd.R_below (by (with_reducible repeat (first | apply Kd.R_alloc | apply Kd.S_alloc | apply Kd.N_alloc | apply Kd.R_drewN | apply Kd.S_drewN | apply Kd.N_drewN | apply Kd.R_drew | apply Kd.S_drew | apply Kd.N_drew));exact HO472.out) hb);have n1_ := aM (Kd.R_below (by (with_reducible repeat (first | apply Kd.R_alloc | apply Kd.S_alloc | apply Kd.N_alloc | apply Kd.R_drewN | apply Kd.S_drewN | apply Kd.N_drewN | apply Kd.R_drew | apply Kd.S_drew | apply Kd.N_drew));exact HO475.out) hb);have n2_ := aM (Kd.N_mono (ok' := fun k_ => ¬ P9_ k_ ∧ some k_ ≠ (.slice Ao33 t481.length co33 : Value).ownBlock ∧ some k_ ≠ (.slice Ao36 t485.length co36 : Value).ownBlock) (Kd.N_old (ok := fun k_ => (True ∧ some k_ ≠ (.slice Ao33 t481.length co33 : Value).ownBlock) ∧ some k_ ≠ (.slice Ao36 t485.length co36 : Value).ownBlock) (by (with_reducible repeat (first | apply Kd.R_alloc | apply Kd.S_alloc | apply Kd.N_alloc | apply Kd.R_drewN | apply Kd.S_drewN | apply Kd.N_drewN | apply Kd.R_drew | apply Kd.S_drew | apply Kd.N_drew));exact HO478.out) hb) (fun k_ hk_ => ⟨fun h_ => absurd ((hp9_ k_).1 h_) (Nat.not_le.mpr hk_.2), hk_.1.1.2, hk_.1.2⟩));have n3_ := aM (Kd.R_below (by (with_reducible repeat (first | apply Kd.R_alloc | apply Kd.S_alloc | apply Kd.N_alloc | apply Kd.R_drewN | apply Kd.S_drewN | apply Kd.N_drewN | apply Kd.R_drew | apply Kd.S_drew | apply Kd.N_drew));exact HO483.out) hb);have n4_ := aM (Kd.R_mono (ok' := fun k_ => ¬ P9_ k_) (Kd.R_old (ok := fun _ => True) (Kd.R_mono (by (with_reducible repeat (first | apply Kd.R_alloc | apply Kd.S_alloc | apply Kd.N_alloc | apply Kd.R_drewN | apply Kd.S_drewN | apply Kd.N_drewN | apply Kd.R_drew | apply Kd.S_drew | apply Kd.N_drew));exact HO487.out) (fun _ _ => trivial)) hb) (fun k_ hk_ h_ => absurd ((hp9_ k_).1 h_) (Nat.not_le.mpr hk_.2)));have n5_ := aM (Kd.S_lower (Kd.S_mono (ok' := fun k_ => P9_ k_) (Kd.S_bound ho0) (fun k_ hk_ => (hp9_ k_).2 hk_.2.1)) (below_size (by exact bB)));have n6_ := aM (kB hb BK467.out);have n7_ := aM (kB hb BK484.out);have n8_ := aM (below_step (by exact bB) hb);clear HO472;clear HO475;clear HO478;clear HO483;clear HO487;clear BK467;clear BK484;clear HB;have HO472 := n0_;have HO475 := n1_;have HO478 := n2_;have HO483 := n3_;have HO487 := n4_;have HO490 := n5_;have BK467 := n6_;have BK484 := n7_;have HB := n8_;clear n0_ n1_ n2_ n3_ n4_ n5_ n6_ n7_ n8_;(try clear hb);(try clear hb2);(try clear hk);(try clear hi);(try clear ho0)))
 (try simp only [Act.put, List.setIfInBounds_toArray, List.set_cons_zero, List.set_cons_succ])
 go_cut [59] (fun v59 wc => ∃ (P9_ : Nat → Prop) (kq : Nat) (x59_17 : Bool), v59 = .bool x59_17 ∧ Aside0 (laws_FnExactGuardAnswers.j0 kq l1 a2 a3 t476 t479 t485 t488 t491 x59_17 a0_0 l0_1 t480 t481 = some r) ∧ Aside0 (kq ≤ k) ∧ Aside0 (Kd.N (Kd.slice 3 (Kd.int .i64)) 32 wc w.heap.size (fun k_ => ¬ P9_ k_ ∧ some k_ ≠ (.slice Ao33 t481.length co33 : Value).ownBlock ∧ some k_ ≠ (.slice Ao36 t485.length co36 : Value).ownBlock) v477 t476) ∧ Aside0 (Kd.R (Kd.int .i64) 3 wc w.heap.size (fun k_ => ¬ P9_ k_) (.slice Ao36 t485.length co36) t485) ∧ Aside0 (Kd.S (Kd.slice 3 (Kd.int .i64)) 32 wc w.heap.size (fun k_ => P9_ k_) v489 t488) ∧ Aside0 (Kd.R k92 92 wc w.heap.size (fun _ => True) (.slice Ao33 t481.length co33) t481) ∧ Aside0 (wc.heap[gb467]? = some (.cells #[.int .i64 a0_0, (.slice A0_1 l0_1.length c0_1)] 24 (0, 0))) ∧ Aside0 (wc.heap[gb484]? = some (.cells #[.int .i64 t480, (.slice Ao33 t481.length co33)] 28 (0, 0))) ∧ Aside0 (Below w.heap.size w wc))
 case first =>
  have H := HC18.out
  clear HC18
  replace H := Option.bind_eq_some_iff.mp H
  obtain ⟨t492, A380, H⟩ := H
  replace H : (if t492 = true then (laws_FnExactGuardAnswers.j0 k l1 a2 a3 t476 t479 t485 t488 t491 (t491 != t479) a0_0 l0_1 t480 t481) else (laws_FnExactGuardAnswers.j0 k l1 a2 a3 t476 t479 t485 t488 t491 true a0_0 l0_1 t480 t481)) = some r := H
  have A38 := Aside0.mk A380
  clear A380
  by_cases c39 : t492 = true
  ·subst c39
   have H1 : (laws_FnExactGuardAnswers.j0 k l1 a2 a3 t476 t479 t485 t488 t491 (t491 != t479) a0_0 l0_1 t480 t481) = some r := by rw [if_pos rfl] at H;exact H
   clear H
   have H := H1
   clear H1
   have H' := Aside0.mk H
   clear H
   obtain ⟨Ao40, co40, eo40⟩ := Kd.S_slice HO490.out
   subst eo40
   obtain ⟨Ao41, co41, eo41⟩ := Kd.N_slice HO478.out
   subst eo41
   go_wp2_with (first | ((with_reducible refine gate_callee (f := 24) rfl ?_);refine goesL_ (some 53) rfl rfl Tryd.func24 (by kernel_rfl) rfl #[.slice Ao40 t488.length co40, .slice Ao41 t476.length co41] rfl mM ?_;(with_reducible refine (laws_eqIntSS.calls k _ _ t488 _ _ t476 true _ ?side1 ?side2 ?side3 ?side4 A38.out).mono ?_);(case side1 => exact cP (Kd.S_reads' HO490.out).2.2);(case side2 => exact (Kd.S_reads' HO490.out).2.1);(case side3 => exact cP (Kd.N_reads' HO478.out).2.2);(case side4 => exact (Kd.N_reads' HO478.out).2.1);rintro e w' ⟨rfl, ⟨nd, rfl⟩⟩;refine ⟨_, rfl, ?_⟩))
   go_meet
   case rel => exact ⟨P9_, _, ((t491 != t479)), (by first | rfl | (simp;done) | (simp [*];done)), H', ⟨by first | omega | exact Nat.le_refl _⟩, ⟨by (with_reducible repeat (first | apply Kd.R_alloc | apply Kd.S_alloc | apply Kd.N_alloc | apply Kd.R_drewN | apply Kd.S_drewN | apply Kd.N_drewN | apply Kd.R_drew | apply Kd.S_drew | apply Kd.N_drew));exact Kd.N_mono HO478.out (fun _ hk => by first | exact hk | exact hk.2 | exact hk.1 | exact hk.2.1 | exact ⟨hk.1, hk.2.1⟩ | trivial)⟩, ⟨by (with_reducible repeat (first | apply Kd.R_alloc | apply Kd.S_alloc | apply Kd.N_alloc | apply Kd.R_drewN | apply Kd.S_drewN | apply Kd.N_drewN | apply Kd.R_drew | apply Kd.S_drew | apply Kd.N_drew));exact Kd.R_mono HO487.out (fun _ hk => by first | exact hk | exact hk.2 | exact hk.1 | exact hk.2.1 | exact ⟨hk.1, hk.2.1⟩ | trivial)⟩, ⟨by (with_reducible repeat (first | apply Kd.R_alloc | apply Kd.S_alloc | apply Kd.N_alloc | apply Kd.R_drewN | apply Kd.S_drewN | apply Kd.N_drewN | apply Kd.R_drew | apply Kd.S_drew | apply Kd.N_drew));exact Kd.S_mono HO490.out (fun _ hk => by first | exact hk | exact hk.2 | exact hk.1 | exact hk.2.1 | exact ⟨hk.1, hk.2.1⟩ | trivial)⟩, ⟨by (with_reducible repeat (first | apply Kd.R_alloc | apply Kd.S_alloc | apply Kd.N_alloc | apply Kd.R_drewN | apply Kd.S_drewN | apply Kd.N_drewN | apply Kd.R_drew | apply Kd.S_drew | apply Kd.N_drew));exact Kd.R_mono HO483.out (fun _ hk => trivial)⟩, ⟨by exact kP BK467.out⟩, ⟨by exact kP BK484.out⟩, ⟨by exact bB⟩⟩
  replace c39 := Bool.eq_false_iff.mpr c39
  subst c39
  have H1 : (laws_FnExactGuardAnswers.j0 k l1 a2 a3 t476 t479 t485 t488 t491 true a0_0 l0_1 t480 t481) = some r := by rw [if_neg (show ¬ (false = true) by decide)] at H;exact H
  clear H
  have H := H1
  clear H1
  have H' := Aside0.mk H
  clear H
  obtain ⟨Ao42, co42, eo42⟩ := Kd.S_slice HO490.out
  subst eo42
  obtain ⟨Ao43, co43, eo43⟩ := Kd.N_slice HO478.out
  subst eo43
  go_wp2_with (first | ((with_reducible refine gate_callee (f := 24) rfl ?_);refine goesL_ (some 53) rfl rfl Tryd.func24 (by kernel_rfl) rfl #[.slice Ao42 t488.length co42, .slice Ao43 t476.length co43] rfl mM ?_;(with_reducible refine (laws_eqIntSS.calls k _ _ t488 _ _ t476 false _ ?side1 ?side2 ?side3 ?side4 A38.out).mono ?_);(case side1 => exact cP (Kd.S_reads' HO490.out).2.2);(case side2 => exact (Kd.S_reads' HO490.out).2.1);(case side3 => exact cP (Kd.N_reads' HO478.out).2.2);(case side4 => exact (Kd.N_reads' HO478.out).2.1);rintro e w' ⟨rfl, ⟨nd, rfl⟩⟩;refine ⟨_, rfl, ?_⟩))
  go_meet
  case rel => exact ⟨P9_, _, (true), (by first | rfl | (simp;done) | (simp [*];done)), H', ⟨by first | omega | exact Nat.le_refl _⟩, ⟨by (with_reducible repeat (first | apply Kd.R_alloc | apply Kd.S_alloc | apply Kd.N_alloc | apply Kd.R_drewN | apply Kd.S_drewN | apply Kd.N_drewN | apply Kd.R_drew | apply Kd.S_drew | apply Kd.N_drew));exact Kd.N_mono HO478.out (fun _ hk => by first | exact hk | exact hk.2 | exact hk.1 | exact hk.2.1 | exact ⟨hk.1, hk.2.1⟩ | trivial)⟩, ⟨by (with_reducible repeat (first | apply Kd.R_alloc | apply Kd.S_alloc | apply Kd.N_alloc | apply Kd.R_drewN | apply Kd.S_drewN | apply Kd.N_drewN | apply Kd.R_drew | apply Kd.S_drew | apply Kd.N_drew));exact Kd.R_mono HO487.out (fun _ hk => by first | exact hk | exact hk.2 | exact hk.1 | exact hk.2.1 | exact ⟨hk.1, hk.2.1⟩ | trivial)⟩, ⟨by (with_reducible repeat (first | apply Kd.R_alloc | apply Kd.S_alloc | apply Kd.N_alloc | apply Kd.R_drewN | apply Kd.S_drewN | apply Kd.N_drewN | apply Kd.R_drew | apply Kd.S_drew | apply Kd.N_drew));exact Kd.S_mono HO490.out (fun _ hk => by first | exact hk | exact hk.2 | exact hk.1 | exact hk.2.1 | exact ⟨hk.1, hk.2.1⟩ | trivial)⟩, ⟨by (with_reducible repeat (first | apply Kd.R_alloc | apply Kd.S_alloc | apply Kd.N_alloc | apply Kd.R_drewN | apply Kd.S_drewN | apply Kd.N_drewN | apply Kd.R_drew | apply Kd.S_drew | apply Kd.N_drew));exact Kd.R_mono HO483.out (fun _ hk => trivial)⟩, ⟨by exact kP BK467.out⟩, ⟨by exact kP BK484.out⟩, ⟨by exact bB⟩⟩
 case rest =>
  clear HC18
  try clear c1
  try clear c2
  try clear p2
  try clear c3
  try clear c5
  try clear c5b0
  try clear c5b1
  try clear c8
  try clear c8b0
  try clear c9
  try clear c11
  try clear c13
  try clear c17
  try clear c24
  try clear c31
  try clear c36
  try clear c37
  try clear c39
  try clear hcz10_0
  try clear hcz10_1
  try clear hcz20_0
  try clear hcz20_1
  try clear hcz22_0
  try clear hcz22_1
  try clear hcz28_0
  try clear hcz28_1
  try clear hcz32_0
  try clear hcz32_1
  try clear hcz35_0
  try clear hcz35_1
  try clear hfz10_0
  try clear hfz10_1
  try clear hfz20_0
  try clear hfz20_1
  try clear hfz22_0
  try clear hfz22_1
  try clear hfz28_0
  try clear hfz28_1
  try clear hfz32_0
  try clear hfz32_1
  try clear hfz35_0
  try clear hfz35_1
  obtain ⟨P9_, kq, x59_17, rfl, HA, HJ17, HO_10, HO_13, HO_14, HO_485001, BK467, BK484, HB⟩ := hcut
  cases kq with
  | zero => exact absurd HA.out (by simp [laws_FnExactGuardAnswers.j0])
  | succ kj17 =>
   have H := HA.out
   clear HA
   simp only [laws_FnExactGuardAnswers.j0] at H
   by_cases c44 : x59_17 = true
   ·subst c44
    have H1 : (some false) = some r := by rw [if_pos rfl] at H;exact H
    clear H
    have H := H1
    clear H1
    obtain rfl := Option.some.inj H
    go_wp2
    go_ret
    exact ⟨by first | rfl | (simp [errW_none, errW_some] <;> rfl) | (simp [*, errW_none, errW_some] <;> rfl), by exact bB⟩
   replace c44 := Bool.eq_false_iff.mpr c44
   subst c44
   have H1 : ((laws_toGraph.f kj17 a0_0 l0_1).bind fun bt493 => ((laws_eqGraph.f kj17 t480 t481 bt493.1 bt493.2).bind fun t497 => (if t497 = true then ((laws_toIntS.f kj17 l1).bind fun t498 => ((laws_eqIntS.f kj17 t485 t498).bind fun t501 => (if t501 = true then ((laws_markGraph.f t480 t481 1).bind fun bt502 => ((laws_markIntS.f kj17 t485 bt502.1).bind fun bt504 => (if bt504.1 < 0 then (laws_FnExactGuardAnswers.j1 kj17 l1 a2 a3 t476 t479 t488 true a0_0 l0_1) else ((laws_eqIntSS.f kj17 t488 t476).bind fun t506 => (if t506 = true then (laws_FnExactGuardAnswers.j1 kj17 l1 a2 a3 t476 t479 t488 (t491 != t479) a0_0 l0_1) else (laws_FnExactGuardAnswers.j1 kj17 l1 a2 a3 t476 t479 t488 true a0_0 l0_1)))))) else (some false)))) else (some false)))) = some r := by rw [if_neg (show ¬ (false = true) by decide)] at H;exact H
   clear H
   have H := H1
   clear H1
   replace H := Option.bind_eq_some_iff.mp H
   obtain ⟨⟨t493, t494⟩, A450, H⟩ := H
   replace H : ((laws_eqGraph.f kj17 t480 t481 t493 t494).bind fun t497 => (if t497 = true then ((laws_toIntS.f kj17 l1).bind fun t498 => ((laws_eqIntS.f kj17 t485 t498).bind fun t501 => (if t501 = true then ((laws_markGraph.f t480 t481 1).bind fun bt502 => ((laws_markIntS.f kj17 t485 bt502.1).bind fun bt504 => (if bt504.1 < 0 then (laws_FnExactGuardAnswers.j1 kj17 l1 a2 a3 t476 t479 t488 true a0_0 l0_1) else ((laws_eqIntSS.f kj17 t488 t476).bind fun t506 => (if t506 = true then (laws_FnExactGuardAnswers.j1 kj17 l1 a2 a3 t476 t479 t488 (t491 != t479) a0_0 l0_1) else (laws_FnExactGuardAnswers.j1 kj17 l1 a2 a3 t476 t479 t488 true a0_0 l0_1)))))) else (some false)))) else (some false))) = some r := H
   have A45 := Aside0.mk A450
   clear A450
   replace H := Option.bind_eq_some_iff.mp H
   obtain ⟨t497, A460, H⟩ := H
   replace H : (if t497 = true then ((laws_toIntS.f kj17 l1).bind fun t498 => ((laws_eqIntS.f kj17 t485 t498).bind fun t501 => (if t501 = true then ((laws_markGraph.f t480 t481 1).bind fun bt502 => ((laws_markIntS.f kj17 t485 bt502.1).bind fun bt504 => (if bt504.1 < 0 then (laws_FnExactGuardAnswers.j1 kj17 l1 a2 a3 t476 t479 t488 true a0_0 l0_1) else ((laws_eqIntSS.f kj17 t488 t476).bind fun t506 => (if t506 = true then (laws_FnExactGuardAnswers.j1 kj17 l1 a2 a3 t476 t479 t488 (t491 != t479) a0_0 l0_1) else (laws_FnExactGuardAnswers.j1 kj17 l1 a2 a3 t476 t479 t488 true a0_0 l0_1)))))) else (some false)))) else (some false)) = some r := H
   have A46 := Aside0.mk A460
   clear A460
   by_cases c47 : t497 = true
   rotate_left
   ·replace c47 := Bool.eq_false_iff.mpr c47
    subst c47
    have H1 : (some false) = some r := by rw [if_neg (show ¬ (false = true) by decide)] at H;exact H
    clear H
    have H := H1
    clear H1
    obtain rfl := Option.some.inj H
    try go_wp2
    have n0_ := aM (Kd.N_drew HO_10.out)
    have n1_ := aM (Kd.R_drew HO_13.out)
    have n2_ := aM (Kd.S_drew HO_14.out)
    have n3_ := aM (Kd.R_drew HO_485001.out)
    have n4_ := aM (blk_drew BK467.out)
    have n5_ := aM (blk_drew BK484.out)
    have n6_ := aM (below_drew1 HB.out)
    clear HO_10
    clear HO_13
    clear HO_14
    clear HO_485001
    clear BK467
    clear BK484
    clear HB
    have HO_10 := n0_
    have HO_13 := n1_
    have HO_14 := n2_
    have HO_485001 := n3_
    have BK467 := n4_
    have BK484 := n5_
    have HB := n6_
    clear n0_ n1_ n2_ n3_ n4_ n5_ n6_
    refine start_ (n := 5) (S := fun w' => w'.cell? ⟨gb484, 0, none⟩ = some (.int .i64 t480) ∧ w'.cell? ⟨gb484, 1, none⟩ = some (.slice Ao33 t481.length co33) ∧ w'.cell? ⟨gb467, 0, none⟩ = some (.int .i64 a0_0) ∧ w'.cell? ⟨gb467, 1, none⟩ = some (.slice A0_1 l0_1.length c0_1)) (ds := []) #[false,false,false,false,false] (by kernel_rfl) rfl rfl ⟨(blk_cell BK484.out 0).trans rfl, (blk_cell BK484.out 1).trans rfl, (blk_cell BK467.out 0).trans rfl, (blk_cell BK467.out 1).trans rfl⟩ (fun hHeld => ?_)
    generalize wc.drew = w109 at HO_10 HO_13 HO_14 HO_485001 BK467 BK484 HB hHeld ⊢
    refine take_ (i := 0) (N := some 60) (v := ?_) (a' := ?_) #[true,false,false,false,false] rfl rfl (by kernel_rfl) (fun _ _ _ h => h) (Or.inl ⟨by rfl, ?_⟩) hHeld ?_ ?_
    rotate_left
    ·rintro w' ⟨s0, s1, s2, s3⟩
     go_simp
     with_reducible rfl
    rotate_left
    ·exact aP
    refine take_ (i := 1) (N := some 61) (v := ?_) (a' := ?_) #[true,true,false,false,false] rfl rfl (by kernel_rfl) (fun _ _ _ h => h) (Or.inl ⟨by rfl, ?_⟩) hHeld ?_ ?_
    rotate_left
    ·rintro w' ⟨s0, s1, s2, s3⟩
     go_simp
     with_reducible rfl
    rotate_left
    ·exact aP
    refine one_ (i := 2) (N := some 62) #[true,true,true,false,false] rfl rfl (by kernel_rfl) (by decide) (fun K hK => ?_)
    refine goes_ Tryd.func13 (by kernel_rfl) rfl #[.agg #[.int .i64 a0_0, .slice A0_1 l0_1.length c0_1]] (by rfl) rfl rfl mM ?_
    with_reducible refine (laws_toGraph.calls kj17 a0_0 _ _ l0_1 t493 t494 _ ?side1 ?side2 A45.out).mono ?_
    (case side1 => exact cP (Kd.C_below HR0_1.out HB.out))
    (case side2 => exact HC0_1.out)
    rintro e w110 ⟨v495, rfl, ho0, hb⟩
    refine ⟨_, rfl, ?_⟩
    have n0_ := aM (Kd.N_below (by (with_reducible repeat (first | apply Kd.R_alloc | apply Kd.S_alloc | apply Kd.N_alloc | apply Kd.R_drewN | apply Kd.S_drewN | apply Kd.N_drewN | apply Kd.R_drew | apply Kd.S_drew | apply Kd.N_drew));exact HO_10.out) hb)
    have n1_ := aM (Kd.R_below (by (with_reducible repeat (first | apply Kd.R_alloc | apply Kd.S_alloc | apply Kd.N_alloc | apply Kd.R_drewN | apply Kd.S_drewN | apply Kd.N_drewN | apply Kd.R_drew | apply Kd.S_drew | apply Kd.N_drew));exact HO_13.out) hb)
    have n2_ := aM (Kd.S_below (by (with_reducible repeat (first | apply Kd.R_alloc | apply Kd.S_alloc | apply Kd.N_alloc | apply Kd.R_drewN | apply Kd.S_drewN | apply Kd.N_drewN | apply Kd.R_drew | apply Kd.S_drew | apply Kd.N_drew));exact HO_14.out) hb)
    have n3_ := aM (Kd.R_elder' (by (with_reducible repeat (first | apply Kd.R_alloc | apply Kd.S_alloc | apply Kd.N_alloc | apply Kd.R_drewN | apply Kd.S_drewN | apply Kd.N_drewN | apply Kd.R_drew | apply Kd.S_drew | apply Kd.N_drew));exact HO_485001.out) (Kd.R_base ho0) hb)
    have n4_ := aM (Kd.R_lower (Kd.R_new' ho0 (Kd.R_lt (by (with_reducible repeat (first | apply Kd.R_alloc | apply Kd.S_alloc | apply Kd.N_alloc | apply Kd.R_drewN | apply Kd.S_drewN | apply Kd.N_drewN | apply Kd.R_drew | apply Kd.S_drew | apply Kd.N_drew));exact HO_485001.out))) (below_size (by exact bB)))
    have n5_ := aM (kB hb BK467.out)
    have n6_ := aM (kB hb BK484.out)
    have n7_ := aM (below_step (by exact bB) hb)
    clear HO_10
    clear HO_13
    clear HO_14
    clear HO_485001
    clear BK467
    clear BK484
    clear HB
    have HO_10 := n0_
    have HO_13 := n1_
    have HO_14 := n2_
    have HO_485001 := n3_
    have HO496 := n4_
    have BK467 := n5_
    have BK484 := n6_
    have HB := n7_
    clear n0_ n1_ n2_ n3_ n4_ n5_ n6_ n7_
    (try clear hb)
    (try clear hb2)
    (try clear hk)
    (try clear hi)
    (try clear ho0)
    obtain ⟨Ao111, co111, eo111⟩ := Kd.R_slice HO496.out
    (first | subst eo111 | (injection eo111 with f1_ f2_ f3_;have f4_ := f1_.symm;have f5_ := f3_.symm;clear f1_ f2_ f3_;subst f4_;subst f5_))
    refine hK.out _ _ ⟨(blk_cell BK484.out 0).trans rfl, (blk_cell BK484.out 1).trans rfl, (blk_cell BK467.out 0).trans rfl, (blk_cell BK467.out 1).trans rfl⟩ (fun hHeld => ?_)
    clear hK K
    refine norm_ (a' := ?_) ?_ ?_
    rotate_left
    ·show Act.put _ (some 62) _ = _
     simp only [Act.put, List.setIfInBounds_toArray, List.set_cons_zero, List.set_cons_succ, i64_w, i32_w]
     rfl
    refine one_ (i := 3) (N := some 63) #[true,true,true,true,false] rfl rfl (by kernel_rfl) (by decide) (fun K hK => ?_)
    refine goes_ Tryd.func15 (by kernel_rfl) rfl #[.agg #[.int .i64 t480, .slice Ao33 t481.length co33], .agg #[.int .i64 t493, .slice Ao111 t494.length co111]] (by rfl) rfl rfl mM ?_
    with_reducible refine (laws_eqGraph.calls kj17 t480 _ _ t481 t493 _ _ t494 false _ ?side1 ?side2 ?side3 ?side4 A46.out).mono ?_
    (case side1 => exact cP (Kd.R_reads' HO_485001.out).2.2)
    (case side2 => exact (Kd.R_reads' HO_485001.out).2.1)
    (case side3 => exact cP (Kd.R_reads' HO496.out).2.2)
    (case side4 => exact (Kd.R_reads' HO496.out).2.1)
    rintro e w112 ⟨rfl, hb⟩
    refine ⟨_, rfl, ?_⟩
    have n0_ := aM (Kd.N_below (by (with_reducible repeat (first | apply Kd.R_alloc | apply Kd.S_alloc | apply Kd.N_alloc | apply Kd.R_drewN | apply Kd.S_drewN | apply Kd.N_drewN | apply Kd.R_drew | apply Kd.S_drew | apply Kd.N_drew));exact HO_10.out) hb)
    have n1_ := aM (Kd.R_below (by (with_reducible repeat (first | apply Kd.R_alloc | apply Kd.S_alloc | apply Kd.N_alloc | apply Kd.R_drewN | apply Kd.S_drewN | apply Kd.N_drewN | apply Kd.R_drew | apply Kd.S_drew | apply Kd.N_drew));exact HO_13.out) hb)
    have n2_ := aM (Kd.S_below (by (with_reducible repeat (first | apply Kd.R_alloc | apply Kd.S_alloc | apply Kd.N_alloc | apply Kd.R_drewN | apply Kd.S_drewN | apply Kd.N_drewN | apply Kd.R_drew | apply Kd.S_drew | apply Kd.N_drew));exact HO_14.out) hb)
    have n3_ := aM (Kd.R_below (by (with_reducible repeat (first | apply Kd.R_alloc | apply Kd.S_alloc | apply Kd.N_alloc | apply Kd.R_drewN | apply Kd.S_drewN | apply Kd.N_drewN | apply Kd.R_drew | apply Kd.S_drew | apply Kd.N_drew));exact HO_485001.out) hb)
    have n4_ := aM (Kd.R_below (by (with_reducible repeat (first | apply Kd.R_alloc | apply Kd.S_alloc | apply Kd.N_alloc | apply Kd.R_drewN | apply Kd.S_drewN | apply Kd.N_drewN | apply Kd.R_drew | apply Kd.S_drew | apply Kd.N_drew));exact HO496.out) hb)
    have n5_ := aM (kB hb BK467.out)
    have n6_ := aM (kB hb BK484.out)
    have n7_ := aM (below_step (by exact bB) hb)
    clear HO_10
    clear HO_13
    clear HO_14
    clear HO_485001
    clear HO496
    clear BK467
    clear BK484
    clear HB
    have HO_10 := n0_
    have HO_13 := n1_
    have HO_14 := n2_
    have HO_485001 := n3_
    have HO496 := n4_
    have BK467 := n5_
    have BK484 := n6_
    have HB := n7_
    clear n0_ n1_ n2_ n3_ n4_ n5_ n6_ n7_
    (try clear hb)
    (try clear hb2)
    (try clear hk)
    (try clear hi)
    refine hK.out _ _ ⟨(blk_cell BK484.out 0).trans rfl, (blk_cell BK484.out 1).trans rfl, (blk_cell BK467.out 0).trans rfl, (blk_cell BK467.out 1).trans rfl⟩ (fun hHeld => ?_)
    clear hK K
    refine norm_ (a' := ?_) ?_ ?_
    rotate_left
    ·show Act.put _ (some 63) _ = _
     simp only [Act.put, List.setIfInBounds_toArray, List.set_cons_zero, List.set_cons_succ, i64_w, i32_w]
     rfl
    refine pure_ (i := 4) (N := some 64) (v := ?_) (a' := ?_) #[true,true,true,true,true] rfl rfl (by kernel_rfl) (fun _ _ _ h => h) (Or.inl ⟨by rfl, ?_⟩) ?_ ?_
    rotate_left
    ·intro w'
     go_simp
     with_reducible rfl
    rotate_left
    ·exact aP
    refine done_ (by kernel_rfl) ?_
    try go_wp2
    go_ret
    exact ⟨by first | rfl | (simp [errW_none, errW_some] <;> rfl) | (simp [*, errW_none, errW_some] <;> rfl), by exact bB⟩
   subst c47
   have H1 : ((laws_toIntS.f kj17 l1).bind fun t498 => ((laws_eqIntS.f kj17 t485 t498).bind fun t501 => (if t501 = true then ((laws_markGraph.f t480 t481 1).bind fun bt502 => ((laws_markIntS.f kj17 t485 bt502.1).bind fun bt504 => (if bt504.1 < 0 then (laws_FnExactGuardAnswers.j1 kj17 l1 a2 a3 t476 t479 t488 true a0_0 l0_1) else ((laws_eqIntSS.f kj17 t488 t476).bind fun t506 => (if t506 = true then (laws_FnExactGuardAnswers.j1 kj17 l1 a2 a3 t476 t479 t488 (t491 != t479) a0_0 l0_1) else (laws_FnExactGuardAnswers.j1 kj17 l1 a2 a3 t476 t479 t488 true a0_0 l0_1)))))) else (some false)))) = some r := by rw [if_pos rfl] at H;exact H
   clear H
   have H := H1
   clear H1
   replace H := Option.bind_eq_some_iff.mp H
   obtain ⟨t498, A480, H⟩ := H
   replace H : ((laws_eqIntS.f kj17 t485 t498).bind fun t501 => (if t501 = true then ((laws_markGraph.f t480 t481 1).bind fun bt502 => ((laws_markIntS.f kj17 t485 bt502.1).bind fun bt504 => (if bt504.1 < 0 then (laws_FnExactGuardAnswers.j1 kj17 l1 a2 a3 t476 t479 t488 true a0_0 l0_1) else ((laws_eqIntSS.f kj17 t488 t476).bind fun t506 => (if t506 = true then (laws_FnExactGuardAnswers.j1 kj17 l1 a2 a3 t476 t479 t488 (t491 != t479) a0_0 l0_1) else (laws_FnExactGuardAnswers.j1 kj17 l1 a2 a3 t476 t479 t488 true a0_0 l0_1)))))) else (some false))) = some r := H
   have A48 := Aside0.mk A480
   clear A480
   replace H := Option.bind_eq_some_iff.mp H
   obtain ⟨t501, A490, H⟩ := H
   replace H : (if t501 = true then ((laws_markGraph.f t480 t481 1).bind fun bt502 => ((laws_markIntS.f kj17 t485 bt502.1).bind fun bt504 => (if bt504.1 < 0 then (laws_FnExactGuardAnswers.j1 kj17 l1 a2 a3 t476 t479 t488 true a0_0 l0_1) else ((laws_eqIntSS.f kj17 t488 t476).bind fun t506 => (if t506 = true then (laws_FnExactGuardAnswers.j1 kj17 l1 a2 a3 t476 t479 t488 (t491 != t479) a0_0 l0_1) else (laws_FnExactGuardAnswers.j1 kj17 l1 a2 a3 t476 t479 t488 true a0_0 l0_1)))))) else (some false)) = some r := H
   have A49 := Aside0.mk A490
   clear A490
   by_cases c50 : t501 = true
   rotate_left
   ·replace c50 := Bool.eq_false_iff.mpr c50
    subst c50
    have H1 : (some false) = some r := by rw [if_neg (show ¬ (false = true) by decide)] at H;exact H
    clear H
    have H := H1
    clear H1
    obtain rfl := Option.some.inj H
    try go_wp2
    have n0_ := aM (Kd.N_drew HO_10.out)
    have n1_ := aM (Kd.R_drew HO_13.out)
    have n2_ := aM (Kd.S_drew HO_14.out)
    have n3_ := aM (Kd.R_drew HO_485001.out)
    have n4_ := aM (blk_drew BK467.out)
    have n5_ := aM (blk_drew BK484.out)
    have n6_ := aM (below_drew1 HB.out)
    clear HO_10
    clear HO_13
    clear HO_14
    clear HO_485001
    clear BK467
    clear BK484
    clear HB
    have HO_10 := n0_
    have HO_13 := n1_
    have HO_14 := n2_
    have HO_485001 := n3_
    have BK467 := n4_
    have BK484 := n5_
    have HB := n6_
    clear n0_ n1_ n2_ n3_ n4_ n5_ n6_
    refine start_ (n := 5) (S := fun w' => w'.cell? ⟨gb484, 0, none⟩ = some (.int .i64 t480) ∧ w'.cell? ⟨gb484, 1, none⟩ = some (.slice Ao33 t481.length co33) ∧ w'.cell? ⟨gb467, 0, none⟩ = some (.int .i64 a0_0) ∧ w'.cell? ⟨gb467, 1, none⟩ = some (.slice A0_1 l0_1.length c0_1)) (ds := []) #[false,false,false,false,false] (by kernel_rfl) rfl rfl ⟨(blk_cell BK484.out 0).trans rfl, (blk_cell BK484.out 1).trans rfl, (blk_cell BK467.out 0).trans rfl, (blk_cell BK467.out 1).trans rfl⟩ (fun hHeld => ?_)
    generalize wc.drew = w103 at HO_10 HO_13 HO_14 HO_485001 BK467 BK484 HB hHeld ⊢
    refine take_ (i := 0) (N := some 60) (v := ?_) (a' := ?_) #[true,false,false,false,false] rfl rfl (by kernel_rfl) (fun _ _ _ h => h) (Or.inl ⟨by rfl, ?_⟩) hHeld ?_ ?_
    rotate_left
    ·rintro w' ⟨s0, s1, s2, s3⟩
     go_simp
     with_reducible rfl
    rotate_left
    ·exact aP
    refine take_ (i := 1) (N := some 61) (v := ?_) (a' := ?_) #[true,true,false,false,false] rfl rfl (by kernel_rfl) (fun _ _ _ h => h) (Or.inl ⟨by rfl, ?_⟩) hHeld ?_ ?_
    rotate_left
    ·rintro w' ⟨s0, s1, s2, s3⟩
     go_simp
     with_reducible rfl
    rotate_left
    ·exact aP
    refine one_ (i := 2) (N := some 62) #[true,true,true,false,false] rfl rfl (by kernel_rfl) (by decide) (fun K hK => ?_)
    refine goes_ Tryd.func13 (by kernel_rfl) rfl #[.agg #[.int .i64 a0_0, .slice A0_1 l0_1.length c0_1]] (by rfl) rfl rfl mM ?_
    with_reducible refine (laws_toGraph.calls kj17 a0_0 _ _ l0_1 t493 t494 _ ?side1 ?side2 A45.out).mono ?_
    (case side1 => exact cP (Kd.C_below HR0_1.out HB.out))
    (case side2 => exact HC0_1.out)
    rintro e w104 ⟨v495, rfl, ho0, hb⟩
    refine ⟨_, rfl, ?_⟩
    have n0_ := aM (Kd.N_below (by (with_reducible repeat (first | apply Kd.R_alloc | apply Kd.S_alloc | apply Kd.N_alloc | apply Kd.R_drewN | apply Kd.S_drewN | apply Kd.N_drewN | apply Kd.R_drew | apply Kd.S_drew | apply Kd.N_drew));exact HO_10.out) hb)
    have n1_ := aM (Kd.R_below (by (with_reducible repeat (first | apply Kd.R_alloc | apply Kd.S_alloc | apply Kd.N_alloc | apply Kd.R_drewN | apply Kd.S_drewN | apply Kd.N_drewN | apply Kd.R_drew | apply Kd.S_drew | apply Kd.N_drew));exact HO_13.out) hb)
    have n2_ := aM (Kd.S_below (by (with_reducible repeat (first | apply Kd.R_alloc | apply Kd.S_alloc | apply Kd.N_alloc | apply Kd.R_drewN | apply Kd.S_drewN | apply Kd.N_drewN | apply Kd.R_drew | apply Kd.S_drew | apply Kd.N_drew));exact HO_14.out) hb)
    have n3_ := aM (Kd.R_elder' (by (with_reducible repeat (first | apply Kd.R_alloc | apply Kd.S_alloc | apply Kd.N_alloc | apply Kd.R_drewN | apply Kd.S_drewN | apply Kd.N_drewN | apply Kd.R_drew | apply Kd.S_drew | apply Kd.N_drew));exact HO_485001.out) (Kd.R_base ho0) hb)
    have n4_ := aM (Kd.R_lower (Kd.R_new' ho0 (Kd.R_lt (by (with_reducible repeat (first | apply Kd.R_alloc | apply Kd.S_alloc | apply Kd.N_alloc | apply Kd.R_drewN | apply Kd.S_drewN | apply Kd.N_drewN | apply Kd.R_drew | apply Kd.S_drew | apply Kd.N_drew));exact HO_485001.out))) (below_size (by exact bB)))
    have n5_ := aM (kB hb BK467.out)
    have n6_ := aM (kB hb BK484.out)
    have n7_ := aM (below_step (by exact bB) hb)
    clear HO_10
    clear HO_13
    clear HO_14
    clear HO_485001
    clear BK467
    clear BK484
    clear HB
    have HO_10 := n0_
    have HO_13 := n1_
    have HO_14 := n2_
    have HO_485001 := n3_
    have HO496 := n4_
    have BK467 := n5_
    have BK484 := n6_
    have HB := n7_
    clear n0_ n1_ n2_ n3_ n4_ n5_ n6_ n7_
    (try clear hb)
    (try clear hb2)
    (try clear hk)
    (try clear hi)
    (try clear ho0)
    obtain ⟨Ao105, co105, eo105⟩ := Kd.R_slice HO496.out
    (first | subst eo105 | (injection eo105 with f1_ f2_ f3_;have f4_ := f1_.symm;have f5_ := f3_.symm;clear f1_ f2_ f3_;subst f4_;subst f5_))
    refine hK.out _ _ ⟨(blk_cell BK484.out 0).trans rfl, (blk_cell BK484.out 1).trans rfl, (blk_cell BK467.out 0).trans rfl, (blk_cell BK467.out 1).trans rfl⟩ (fun hHeld => ?_)
    clear hK K
    refine norm_ (a' := ?_) ?_ ?_
    rotate_left
    ·show Act.put _ (some 62) _ = _
     simp only [Act.put, List.setIfInBounds_toArray, List.set_cons_zero, List.set_cons_succ, i64_w, i32_w]
     rfl
    refine one_ (i := 3) (N := some 63) #[true,true,true,true,false] rfl rfl (by kernel_rfl) (by decide) (fun K hK => ?_)
    refine goes_ Tryd.func15 (by kernel_rfl) rfl #[.agg #[.int .i64 t480, .slice Ao33 t481.length co33], .agg #[.int .i64 t493, .slice Ao105 t494.length co105]] (by rfl) rfl rfl mM ?_
    with_reducible refine (laws_eqGraph.calls kj17 t480 _ _ t481 t493 _ _ t494 true _ ?side1 ?side2 ?side3 ?side4 A46.out).mono ?_
    (case side1 => exact cP (Kd.R_reads' HO_485001.out).2.2)
    (case side2 => exact (Kd.R_reads' HO_485001.out).2.1)
    (case side3 => exact cP (Kd.R_reads' HO496.out).2.2)
    (case side4 => exact (Kd.R_reads' HO496.out).2.1)
    rintro e w106 ⟨rfl, hb⟩
    refine ⟨_, rfl, ?_⟩
    have n0_ := aM (Kd.N_below (by (with_reducible repeat (first | apply Kd.R_alloc | apply Kd.S_alloc | apply Kd.N_alloc | apply Kd.R_drewN | apply Kd.S_drewN | apply Kd.N_drewN | apply Kd.R_drew | apply Kd.S_drew | apply Kd.N_drew));exact HO_10.out) hb)
    have n1_ := aM (Kd.R_below (by (with_reducible repeat (first | apply Kd.R_alloc | apply Kd.S_alloc | apply Kd.N_alloc | apply Kd.R_drewN | apply Kd.S_drewN | apply Kd.N_drewN | apply Kd.R_drew | apply Kd.S_drew | apply Kd.N_drew));exact HO_13.out) hb)
    have n2_ := aM (Kd.S_below (by (with_reducible repeat (first | apply Kd.R_alloc | apply Kd.S_alloc | apply Kd.N_alloc | apply Kd.R_drewN | apply Kd.S_drewN | apply Kd.N_drewN | apply Kd.R_drew | apply Kd.S_drew | apply Kd.N_drew));exact HO_14.out) hb)
    have n3_ := aM (Kd.R_below (by (with_reducible repeat (first | apply Kd.R_alloc | apply Kd.S_alloc | apply Kd.N_alloc | apply Kd.R_drewN | apply Kd.S_drewN | apply Kd.N_drewN | apply Kd.R_drew | apply Kd.S_drew | apply Kd.N_drew));exact HO_485001.out) hb)
    have n4_ := aM (Kd.R_below (by (with_reducible repeat (first | apply Kd.R_alloc | apply Kd.S_alloc | apply Kd.N_alloc | apply Kd.R_drewN | apply Kd.S_drewN | apply Kd.N_drewN | apply Kd.R_drew | apply Kd.S_drew | apply Kd.N_drew));exact HO496.out) hb)
    have n5_ := aM (kB hb BK467.out)
    have n6_ := aM (kB hb BK484.out)
    have n7_ := aM (below_step (by exact bB) hb)
    clear HO_10
    clear HO_13
    clear HO_14
    clear HO_485001
    clear HO496
    clear BK467
    clear BK484
    clear HB
    have HO_10 := n0_
    have HO_13 := n1_
    have HO_14 := n2_
    have HO_485001 := n3_
    have HO496 := n4_
    have BK467 := n5_
    have BK484 := n6_
    have HB := n7_
    clear n0_ n1_ n2_ n3_ n4_ n5_ n6_ n7_
    (try clear hb)
    (try clear hb2)
    (try clear hk)
    (try clear hi)
    refine hK.out _ _ ⟨(blk_cell BK484.out 0).trans rfl, (blk_cell BK484.out 1).trans rfl, (blk_cell BK467.out 0).trans rfl, (blk_cell BK467.out 1).trans rfl⟩ (fun hHeld => ?_)
    clear hK K
    refine norm_ (a' := ?_) ?_ ?_
    rotate_left
    ·show Act.put _ (some 63) _ = _
     simp only [Act.put, List.setIfInBounds_toArray, List.set_cons_zero, List.set_cons_succ, i64_w, i32_w]
     rfl
    refine pure_ (i := 4) (N := some 64) (v := ?_) (a' := ?_) #[true,true,true,true,true] rfl rfl (by kernel_rfl) (fun _ _ _ h => h) (Or.inl ⟨by rfl, ?_⟩) ?_ ?_
    rotate_left
    ·intro w'
     go_simp
     with_reducible rfl
    rotate_left
    ·exact aP
    refine done_ (by kernel_rfl) ?_
    try go_wp2_with (first | ((with_reducible refine gate_callee (f := 17) rfl ?_);refine goesL_ (some 67) rfl rfl Tryd.func17 (by kernel_rfl) rfl #[.slice A1 l1.length c1] rfl mM ?_;(with_reducible refine (laws_toIntS.calls kj17 _ _ l1 t498 _ ?side1 ?side2 A48.out).mono ?_);(case side1 => exact cP (Kd.C_below HR1.out HB.out));(case side2 => exact HC1.out);rintro e w107 ⟨v499, rfl, ho0, hb⟩;refine ⟨_, rfl, ?_⟩;have n0_ := aM (Kd.N_below (by (with_reducible repeat (first | apply Kd.R_alloc | apply Kd.S_alloc | apply Kd.N_alloc | apply Kd.R_drewN | apply Kd.S_drewN | apply Kd.N_drewN | apply Kd.R_drew | apply Kd.S_drew | apply Kd.N_drew));exact HO_10.out) hb);have n1_ := aM (Kd.R_elder' (by (with_reducible repeat (first | apply Kd.R_alloc | apply Kd.S_alloc | apply Kd.N_alloc | apply Kd.R_drewN | apply Kd.S_drewN | apply Kd.N_drewN | apply Kd.R_drew | apply Kd.S_drew | apply Kd.N_drew));exact HO_13.out) (Kd.R_base ho0) hb);have n2_ := aM (Kd.S_below (by (with_reducible repeat (first | apply Kd.R_alloc | apply Kd.S_alloc | apply Kd.N_alloc | apply Kd.R_drewN | apply Kd.S_drewN | apply Kd.N_drewN | apply Kd.R_drew | apply Kd.S_drew | apply Kd.N_drew));exact HO_14.out) hb);have n3_ := aM (Kd.R_below (by (with_reducible repeat (first | apply Kd.R_alloc | apply Kd.S_alloc | apply Kd.N_alloc | apply Kd.R_drewN | apply Kd.S_drewN | apply Kd.N_drewN | apply Kd.R_drew | apply Kd.S_drew | apply Kd.N_drew));exact HO_485001.out) hb);have n4_ := aM (Kd.R_below (by (with_reducible repeat (first | apply Kd.R_alloc | apply Kd.S_alloc | apply Kd.N_alloc | apply Kd.R_drewN | apply Kd.S_drewN | apply Kd.N_drewN | apply Kd.R_drew | apply Kd.S_drew | apply Kd.N_drew));exact HO496.out) hb);have n5_ := aM (Kd.R_lower (Kd.R_new' ho0 (Kd.R_lt (by (with_reducible repeat (first | apply Kd.R_alloc | apply Kd.S_alloc | apply Kd.N_alloc | apply Kd.R_drewN | apply Kd.S_drewN | apply Kd.N_drewN | apply Kd.R_drew | apply Kd.S_drew | apply Kd.N_drew));exact HO_13.out))) (below_size (by exact bB)));have n6_ := aM (kB hb BK467.out);have n7_ := aM (kB hb BK484.out);have n8_ := aM (below_step (by exact bB) hb);clear HO_10;clear HO_13;clear HO_14;clear HO_485001;clear HO496;clear BK467;clear BK484;clear HB;have HO_10 := n0_;have HO_13 := n1_;have HO_14 := n2_;have HO_485001 := n3_;have HO496 := n4_;have HO500 := n5_;have BK467 := n6_;have BK484 := n7_;have HB := n8_;clear n0_ n1_ n2_ n3_ n4_ n5_ n6_ n7_ n8_;(try clear hb);(try clear hb2);(try clear hk);(try clear hi);(try clear ho0);obtain ⟨Ao108, co108, eo108⟩ := Kd.R_slice HO500.out;subst eo108) | ((with_reducible refine gate_callee (f := 19) rfl ?_);refine goesL_ (some 68) rfl rfl Tryd.func19 (by kernel_rfl) rfl #[.slice Ao36 t485.length co36, .slice Ao108 t498.length co108] rfl mM ?_;(with_reducible refine (laws_eqIntS.calls kj17 _ _ t485 _ _ t498 false _ ?side1 ?side2 ?side3 ?side4 A49.out).mono ?_);(case side1 => exact cP (Kd.R_reads' HO_13.out).2.2);(case side2 => exact (Kd.R_reads' HO_13.out).2.1);(case side3 => exact cP (Kd.R_reads' HO500.out).2.2);(case side4 => exact (Kd.R_reads' HO500.out).2.1);rintro e w' ⟨rfl, ⟨nd, rfl⟩⟩;refine ⟨_, rfl, ?_⟩))
    go_ret
    exact ⟨by first | rfl | (simp [errW_none, errW_some] <;> rfl) | (simp [*, errW_none, errW_some] <;> rfl), by exact bB⟩
   subst c50
   have H1 : ((laws_markGraph.f t480 t481 1).bind fun bt502 => ((laws_markIntS.f kj17 t485 bt502.1).bind fun bt504 => (if bt504.1 < 0 then (laws_FnExactGuardAnswers.j1 kj17 l1 a2 a3 t476 t479 t488 true a0_0 l0_1) else ((laws_eqIntSS.f kj17 t488 t476).bind fun t506 => (if t506 = true then (laws_FnExactGuardAnswers.j1 kj17 l1 a2 a3 t476 t479 t488 (t491 != t479) a0_0 l0_1) else (laws_FnExactGuardAnswers.j1 kj17 l1 a2 a3 t476 t479 t488 true a0_0 l0_1)))))) = some r := by rw [if_pos rfl] at H;exact H
   clear H
   have H := H1
   clear H1
   replace H := Option.bind_eq_some_iff.mp H
   obtain ⟨⟨t502, t503⟩, A510, H⟩ := H
   replace H : ((laws_markIntS.f kj17 t485 t502).bind fun bt504 => (if bt504.1 < 0 then (laws_FnExactGuardAnswers.j1 kj17 l1 a2 a3 t476 t479 t488 true a0_0 l0_1) else ((laws_eqIntSS.f kj17 t488 t476).bind fun t506 => (if t506 = true then (laws_FnExactGuardAnswers.j1 kj17 l1 a2 a3 t476 t479 t488 (t491 != t479) a0_0 l0_1) else (laws_FnExactGuardAnswers.j1 kj17 l1 a2 a3 t476 t479 t488 true a0_0 l0_1))))) = some r := H
   have A51 := Aside0.mk A510
   clear A510
   replace H := Option.bind_eq_some_iff.mp H
   obtain ⟨⟨t504, t505⟩, A520, H⟩ := H
   replace H : (if t504 < 0 then (laws_FnExactGuardAnswers.j1 kj17 l1 a2 a3 t476 t479 t488 true a0_0 l0_1) else ((laws_eqIntSS.f kj17 t488 t476).bind fun t506 => (if t506 = true then (laws_FnExactGuardAnswers.j1 kj17 l1 a2 a3 t476 t479 t488 (t491 != t479) a0_0 l0_1) else (laws_FnExactGuardAnswers.j1 kj17 l1 a2 a3 t476 t479 t488 true a0_0 l0_1)))) = some r := H
   have A52 := Aside0.mk A520
   clear A520
   have HC53 := Aside0.mk H
   clear H
   try go_wp2
   have n0_ := aM (Kd.N_drew HO_10.out)
   have n1_ := aM (Kd.R_drew HO_13.out)
   have n2_ := aM (Kd.S_drew HO_14.out)
   have n3_ := aM (Kd.R_drew HO_485001.out)
   have n4_ := aM (blk_drew BK467.out)
   have n5_ := aM (blk_drew BK484.out)
   have n6_ := aM (below_drew1 HB.out)
   clear HO_10
   clear HO_13
   clear HO_14
   clear HO_485001
   clear BK467
   clear BK484
   clear HB
   have HO_10 := n0_
   have HO_13 := n1_
   have HO_14 := n2_
   have HO_485001 := n3_
   have BK467 := n4_
   have BK484 := n5_
   have HB := n6_
   clear n0_ n1_ n2_ n3_ n4_ n5_ n6_
   refine start_ (n := 5) (S := fun w' => w'.cell? ⟨gb484, 0, none⟩ = some (.int .i64 t480) ∧ w'.cell? ⟨gb484, 1, none⟩ = some (.slice Ao33 t481.length co33) ∧ w'.cell? ⟨gb467, 0, none⟩ = some (.int .i64 a0_0) ∧ w'.cell? ⟨gb467, 1, none⟩ = some (.slice A0_1 l0_1.length c0_1)) (ds := []) #[false,false,false,false,false] (by kernel_rfl) rfl rfl ⟨(blk_cell BK484.out 0).trans rfl, (blk_cell BK484.out 1).trans rfl, (blk_cell BK467.out 0).trans rfl, (blk_cell BK467.out 1).trans rfl⟩ (fun hHeld => ?_)
   generalize wc.drew = w54 at HO_10 HO_13 HO_14 HO_485001 BK467 BK484 HB hHeld ⊢
   refine take_ (i := 0) (N := some 60) (v := ?_) (a' := ?_) #[true,false,false,false,false] rfl rfl (by kernel_rfl) (fun _ _ _ h => h) (Or.inl ⟨by rfl, ?_⟩) hHeld ?_ ?_
   rotate_left
   ·rintro w' ⟨s0, s1, s2, s3⟩
    go_simp
    with_reducible rfl
   rotate_left
   ·exact aP
   refine take_ (i := 1) (N := some 61) (v := ?_) (a' := ?_) #[true,true,false,false,false] rfl rfl (by kernel_rfl) (fun _ _ _ h => h) (Or.inl ⟨by rfl, ?_⟩) hHeld ?_ ?_
   rotate_left
   ·rintro w' ⟨s0, s1, s2, s3⟩
    go_simp
    with_reducible rfl
   rotate_left
   ·exact aP
   refine one_ (i := 2) (N := some 62) #[true,true,true,false,false] rfl rfl (by kernel_rfl) (by decide) (fun K hK => ?_)
   refine goes_ Tryd.func13 (by kernel_rfl) rfl #[.agg #[.int .i64 a0_0, .slice A0_1 l0_1.length c0_1]] (by rfl) rfl rfl mM ?_
   with_reducible refine (laws_toGraph.calls kj17 a0_0 _ _ l0_1 t493 t494 _ ?side1 ?side2 A45.out).mono ?_
   (case side1 => exact cP (Kd.C_below HR0_1.out HB.out))
   (case side2 => exact HC0_1.out)
   rintro e w55 ⟨v495, rfl, ho0, hb⟩
   refine ⟨_, rfl, ?_⟩
   have n0_ := aM (Kd.N_below (by (with_reducible repeat (first | apply Kd.R_alloc | apply Kd.S_alloc | apply Kd.N_alloc | apply Kd.R_drewN | apply Kd.S_drewN | apply Kd.N_drewN | apply Kd.R_drew | apply Kd.S_drew | apply Kd.N_drew));exact HO_10.out) hb)
   have n1_ := aM (Kd.R_below (by (with_reducible repeat (first | apply Kd.R_alloc | apply Kd.S_alloc | apply Kd.N_alloc | apply Kd.R_drewN | apply Kd.S_drewN | apply Kd.N_drewN | apply Kd.R_drew | apply Kd.S_drew | apply Kd.N_drew));exact HO_13.out) hb)
   have n2_ := aM (Kd.S_below (by (with_reducible repeat (first | apply Kd.R_alloc | apply Kd.S_alloc | apply Kd.N_alloc | apply Kd.R_drewN | apply Kd.S_drewN | apply Kd.N_drewN | apply Kd.R_drew | apply Kd.S_drew | apply Kd.N_drew));exact HO_14.out) hb)
   have n3_ := aM (Kd.R_elder' (by (with_reducible repeat (first | apply Kd.R_alloc | apply Kd.S_alloc | apply Kd.N_alloc | apply Kd.R_drewN | apply Kd.S_drewN | apply Kd.N_drewN | apply Kd.R_drew | apply Kd.S_drew | apply Kd.N_drew));exact HO_485001.out) (Kd.R_base ho0) hb)
   have n4_ := aM (Kd.R_lower (Kd.R_new' ho0 (Kd.R_lt (by (with_reducible repeat (first | apply Kd.R_alloc | apply Kd.S_alloc | apply Kd.N_alloc | apply Kd.R_drewN | apply Kd.S_drewN | apply Kd.N_drewN | apply Kd.R_drew | apply Kd.S_drew | apply Kd.N_drew));exact HO_485001.out))) (below_size (by exact bB)))
   have n5_ := aM (kB hb BK467.out)
   have n6_ := aM (kB hb BK484.out)
   have n7_ := aM (below_step (by exact bB) hb)
   clear HO_10
   clear HO_13
   clear HO_14
   clear HO_485001
   clear BK467
   clear BK484
   clear HB
   have HO_10 := n0_
   have HO_13 := n1_
   have HO_14 := n2_
   have HO_485001 := n3_
   have HO496 := n4_
   have BK467 := n5_
   have BK484 := n6_
   have HB := n7_
   clear n0_ n1_ n2_ n3_ n4_ n5_ n6_ n7_
   (try clear hb)
   (try clear hb2)
   (try clear hk)
   (try clear hi)
   (try clear ho0)
   obtain ⟨Ao56, co56, eo56⟩ := Kd.R_slice HO496.out
   (first | subst eo56 | (injection eo56 with f1_ f2_ f3_;have f4_ := f1_.symm;have f5_ := f3_.symm;clear f1_ f2_ f3_;subst f4_;subst f5_))
   refine hK.out _ _ ⟨(blk_cell BK484.out 0).trans rfl, (blk_cell BK484.out 1).trans rfl, (blk_cell BK467.out 0).trans rfl, (blk_cell BK467.out 1).trans rfl⟩ (fun hHeld => ?_)
   clear hK K
   refine norm_ (a' := ?_) ?_ ?_
   rotate_left
   ·show Act.put _ (some 62) _ = _
    simp only [Act.put, List.setIfInBounds_toArray, List.set_cons_zero, List.set_cons_succ, i64_w, i32_w]
    rfl
   refine one_ (i := 3) (N := some 63) #[true,true,true,true,false] rfl rfl (by kernel_rfl) (by decide) (fun K hK => ?_)
   refine goes_ Tryd.func15 (by kernel_rfl) rfl #[.agg #[.int .i64 t480, .slice Ao33 t481.length co33], .agg #[.int .i64 t493, .slice Ao56 t494.length co56]] (by rfl) rfl rfl mM ?_
   with_reducible refine (laws_eqGraph.calls kj17 t480 _ _ t481 t493 _ _ t494 true _ ?side1 ?side2 ?side3 ?side4 A46.out).mono ?_
   (case side1 => exact cP (Kd.R_reads' HO_485001.out).2.2)
   (case side2 => exact (Kd.R_reads' HO_485001.out).2.1)
   (case side3 => exact cP (Kd.R_reads' HO496.out).2.2)
   (case side4 => exact (Kd.R_reads' HO496.out).2.1)
   rintro e w57 ⟨rfl, hb⟩
   refine ⟨_, rfl, ?_⟩
   have n0_ := aM (Kd.N_below (by (with_reducible repeat (first | apply Kd.R_alloc | apply Kd.S_alloc | apply Kd.N_alloc | apply Kd.R_drewN | apply Kd.S_drewN | apply Kd.N_drewN | apply Kd.R_drew | apply Kd.S_drew | apply Kd.N_drew));exact HO_10.out) hb)
   have n1_ := aM (Kd.R_below (by (with_reducible repeat (first | apply Kd.R_alloc | apply Kd.S_alloc | apply Kd.N_alloc | apply Kd.R_drewN | apply Kd.S_drewN | apply Kd.N_drewN | apply Kd.R_drew | apply Kd.S_drew | apply Kd.N_drew));exact HO_13.out) hb)
   have n2_ := aM (Kd.S_below (by (with_reducible repeat (first | apply Kd.R_alloc | apply Kd.S_alloc | apply Kd.N_alloc | apply Kd.R_drewN | apply Kd.S_drewN | apply Kd.N_drewN | apply Kd.R_drew | apply Kd.S_drew | apply Kd.N_drew));exact HO_14.out) hb)
   have n3_ := aM (Kd.R_below (by (with_reducible repeat (first | apply Kd.R_alloc | apply Kd.S_alloc | apply Kd.N_alloc | apply Kd.R_drewN | apply Kd.S_drewN | apply Kd.N_drewN | apply Kd.R_drew | apply Kd.S_drew | apply Kd.N_drew));exact HO_485001.out) hb)
   have n4_ := aM (Kd.R_below (by (with_reducible repeat (first | apply Kd.R_alloc | apply Kd.S_alloc | apply Kd.N_alloc | apply Kd.R_drewN | apply Kd.S_drewN | apply Kd.N_drewN | apply Kd.R_drew | apply Kd.S_drew | apply Kd.N_drew));exact HO496.out) hb)
   have n5_ := aM (kB hb BK467.out)
   have n6_ := aM (kB hb BK484.out)
   have n7_ := aM (below_step (by exact bB) hb)
   clear HO_10
   clear HO_13
   clear HO_14
   clear HO_485001
   clear HO496
   clear BK467
   clear BK484
   clear HB
   have HO_10 := n0_
   have HO_13 := n1_
   have HO_14 := n2_
   have HO_485001 := n3_
   have HO496 := n4_
   have BK467 := n5_
   have BK484 := n6_
   have HB := n7_
   clear n0_ n1_ n2_ n3_ n4_ n5_ n6_ n7_
   (try clear hb)
   (try clear hb2)
   (try clear hk)
   (try clear hi)
   refine hK.out _ _ ⟨(blk_cell BK484.out 0).trans rfl, (blk_cell BK484.out 1).trans rfl, (blk_cell BK467.out 0).trans rfl, (blk_cell BK467.out 1).trans rfl⟩ (fun hHeld => ?_)
   clear hK K
   refine norm_ (a' := ?_) ?_ ?_
   rotate_left
   ·show Act.put _ (some 63) _ = _
    simp only [Act.put, List.setIfInBounds_toArray, List.set_cons_zero, List.set_cons_succ, i64_w, i32_w]
    rfl
   refine pure_ (i := 4) (N := some 64) (v := ?_) (a' := ?_) #[true,true,true,true,true] rfl rfl (by kernel_rfl) (fun _ _ _ h => h) (Or.inl ⟨by rfl, ?_⟩) ?_ ?_
   rotate_left
   ·intro w'
    go_simp
    with_reducible rfl
   rotate_left
   ·exact aP
   refine done_ (by kernel_rfl) ?_
   go_upto_region 20 with (first | ((with_reducible refine gate_callee (f := 17) rfl ?_);refine goesL_ (some 67) rfl rfl Tryd.func17 (by kernel_rfl) rfl #[.slice A1 l1.length c1] rfl mM ?_;(with_reducible refine (laws_toIntS.calls kj17 _ _ l1 t498 _ ?side1 ?side2 A48.out).mono ?_);(case side1 => exact cP (Kd.C_below HR1.out HB.out));(case side2 => exact HC1.out);rintro e w58 ⟨v499, rfl, ho0, hb⟩;refine ⟨_, rfl, ?_⟩;have n0_ := aM (Kd.N_below (by (with_reducible repeat (first | apply Kd.R_alloc | apply Kd.S_alloc | apply Kd.N_alloc | apply Kd.R_drewN | apply Kd.S_drewN | apply Kd.N_drewN | apply Kd.R_drew | apply Kd.S_drew | apply Kd.N_drew));exact HO_10.out) hb);have n1_ := aM (Kd.R_elder' (by (with_reducible repeat (first | apply Kd.R_alloc | apply Kd.S_alloc | apply Kd.N_alloc | apply Kd.R_drewN | apply Kd.S_drewN | apply Kd.N_drewN | apply Kd.R_drew | apply Kd.S_drew | apply Kd.N_drew));exact HO_13.out) (Kd.R_base ho0) hb);have n2_ := aM (Kd.S_below (by (with_reducible repeat (first | apply Kd.R_alloc | apply Kd.S_alloc | apply Kd.N_alloc | apply Kd.R_drewN | apply Kd.S_drewN | apply Kd.N_drewN | apply Kd.R_drew | apply Kd.S_drew | apply Kd.N_drew));exact HO_14.out) hb);have n3_ := aM (Kd.R_below (by (with_reducible repeat (first | apply Kd.R_alloc | apply Kd.S_alloc | apply Kd.N_alloc | apply Kd.R_drewN | apply Kd.S_drewN | apply Kd.N_drewN | apply Kd.R_drew | apply Kd.S_drew | apply Kd.N_drew));exact HO_485001.out) hb);have n4_ := aM (Kd.R_below (by (with_reducible repeat (first | apply Kd.R_alloc | apply Kd.S_alloc | apply Kd.N_alloc | apply Kd.R_drewN | apply Kd.S_drewN | apply Kd.N_drewN | apply Kd.R_drew | apply Kd.S_drew | apply Kd.N_drew));exact HO496.out) hb);have n5_ := aM (Kd.R_lower (Kd.R_new' ho0 (Kd.R_lt (by (with_reducible repeat (first | apply Kd.R_alloc | apply Kd.S_alloc | apply Kd.N_alloc | apply Kd.R_drewN | apply Kd.S_drewN | apply Kd.N_drewN | apply Kd.R_drew | apply Kd.S_drew | apply Kd.N_drew));exact HO_13.out))) (below_size (by exact bB)));have n6_ := aM (kB hb BK467.out);have n7_ := aM (kB hb BK484.out);have n8_ := aM (below_step (by exact bB) hb);clear HO_10;clear HO_13;clear HO_14;clear HO_485001;clear HO496;clear BK467;clear BK484;clear HB;have HO_10 := n0_;have HO_13 := n1_;have HO_14 := n2_;have HO_485001 := n3_;have HO496 := n4_;have HO500 := n5_;have BK467 := n6_;have BK484 := n7_;have HB := n8_;clear n0_ n1_ n2_ n3_ n4_ n5_ n6_ n7_ n8_;(try clear hb);(try clear hb2);(try clear hk);(try clear hi);(try clear ho0);obtain ⟨Ao59, co59, eo59⟩ := Kd.R_slice HO500.out;subst eo59) | ((with_reducible refine gate_callee (f := 19) rfl ?_);refine goesL_ (some 68) rfl rfl Tryd.func19 (by kernel_rfl) rfl #[.slice Ao36 t485.length co36, .slice Ao59 t498.length co59] rfl mM ?_;(with_reducible refine (laws_eqIntS.calls kj17 _ _ t485 _ _ t498 true _ ?side1 ?side2 ?side3 ?side4 A49.out).mono ?_);(case side1 => exact cP (Kd.R_reads' HO_13.out).2.2);(case side2 => exact (Kd.R_reads' HO_13.out).2.1);(case side3 => exact cP (Kd.R_reads' HO500.out).2.2);(case side4 => exact (Kd.R_reads' HO500.out).2.1);rintro e w' ⟨rfl, ⟨nd, rfl⟩⟩;refine ⟨_, rfl, ?_⟩;have hnb60 := NB484_467.out;have hnc60 := NB467_484.out;have hcz61_0 := bC0 BK484.out;have hcz61_1 := bC1 BK484.out;have hfz61_0 := blk_frozen BK484.out 0;have hfz61_1 := blk_frozen BK484.out 1) | ((with_reducible refine gate_callee (f := 27) rfl ?_);refine goesL_ (some 72) rfl rfl Tryd.func27 (by kernel_rfl) rfl #[.agg #[.int .i64 t480, .slice Ao33 t481.length co33], .int .i64 1] rfl mM ?_;(with_reducible refine (laws_markGraph.calls t480 (fun k_ => some k_ = (.slice Ao33 t481.length co33 : Value).ownBlock) (.slice Ao33 t481.length co33) t481 1 t502 t503 w _ ?side1 ?side2 A51.out).mono ?_);(case side1 => exact bB);(case side2 => exact Kd.R_tight rfl HO_485001.out);rintro e w62 ⟨rfl, hy0, hb, hkp⟩;refine ⟨_, rfl, ?_⟩;have n0_ := aM (Kd.N_mono (ok' := fun k_ => ¬ P9_ k_ ∧ some k_ ≠ (.slice Ao36 t485.length co36 : Value).ownBlock) (Kd.N_keptB HO_10.out hkp (fun k_ hk_ hs_ => hk_.2.1 hs_)) (fun k_ hk_ => ⟨hk_.1.1, hk_.1.2.2⟩));have n1_ := aM (Kd.R_mono (ok' := fun k_ => ¬ P9_ k_) (Kd.R_keptB ((Kd.R_apart' HO_13.out (Kd.R_typed HO_485001.out) (by decide))) hkp (fun k_ hk_ hs_ => (hk_.2) hs_)) (fun k_ hk_ => hk_.1.1.1));have n2_ := aM (Kd.S_mono (ok' := fun k_ => P9_ k_) (Kd.S_keptB (Kd.S_apart' HO_14.out (Kd.R_typed HO_485001.out) (by decide)) hkp (fun k_ hk_ hs_ => hk_.2 hs_)) (fun k_ hk_ => hk_.1.1));have n3_ := aM (Kd.R_reok rfl hy0 (fun k_ e_ => HO_485001.out.1 k_ e_));have n4_ := aM (blk_kept (by exact kP BK467.out) hkp (fun hs_ => (fun e_ => (Kd.R_ne HO_485001.out BK467.out (by decide)) e_) hs_));have n5_ := aM (blk_kept (by exact kP BK484.out) hkp (fun hs_ => (fun e_ => (Kd.R_ne HO_485001.out BK484.out (by decide)) e_) hs_));have n6_ := aM (Kd.R_mono (ok' := fun k_ => some k_ ≠ (.slice Ao33 t481.length co33 : Value).ownBlock) (Kd.R_keptB (HO496.out) hkp (fun k_ hk_ hs_ => (hk_.2) hs_)) (fun k_ hk_ => hk_.1.2));have n7_ := aM (Kd.R_mono (ok' := fun k_ => some k_ ≠ (.slice Ao36 t485.length co36 : Value).ownBlock) (Kd.R_keptB ((Kd.R_apart' HO500.out (Kd.R_typed HO_485001.out) (by decide))) hkp (fun k_ hk_ hs_ => (hk_.2) hs_)) (fun k_ hk_ => hk_.1.1.2));have n8_ := aM (hb);clear HO_10;clear HO_13;clear HO_14;clear HO_485001;clear BK467;clear BK484;clear HO496;clear HO500;clear HB;have HO_10 := n0_;have HO_13 := n1_;have HO_14 := n2_;have HO_485001 := n3_;have BK467 := n4_;have BK484 := n5_;have HO496 := n6_;have HO500 := n7_;have HB := n8_;clear n0_ n1_ n2_ n3_ n4_ n5_ n6_ n7_ n8_;(try clear hb);(try clear hkp);(try clear hy0)) | ((with_reducible refine gate_callee (f := 28) rfl ?_);refine goesL_ (some 75) rfl rfl Tryd.func28 (by kernel_rfl) rfl #[.slice Ao36 t485.length co36, .int .i64 t502] rfl mM ?_;(with_reducible refine (laws_markIntS.calls kj17 (fun k_ => some k_ = (.slice Ao36 t485.length co36 : Value).ownBlock) (.slice Ao36 t485.length co36) t485 t502 t504 t505 w _ ?side1 ?side2 A52.out).mono ?_);(case side1 => exact bB);(case side2 => exact Kd.R_tight rfl HO_13.out);rintro e w63 ⟨rfl, hy0, hb, hkp⟩;refine ⟨_, rfl, ?_⟩;have n0_ := aM (Kd.N_mono (ok' := fun k_ => ¬ P9_ k_) (Kd.N_keptB HO_10.out hkp (fun k_ hk_ hs_ => hk_.2 hs_)) (fun k_ hk_ => hk_.1.1));have n1_ := aM (Kd.R_reok rfl hy0 (fun k_ e_ => HO_13.out.1 k_ e_));have n2_ := aM (Kd.S_mono (ok' := fun k_ => P9_ k_) (Kd.S_keptB HO_14.out hkp (fun k_ hk_ hs_ => HO_13.out.1 k_ hs_.symm hk_)) (fun k_ hk_ => hk_.1));have n3_ := aM (Kd.R_mono (ok' := fun k_ => some k_ ≠ (.slice Ao56 t494.length co56 : Value).ownBlock) (Kd.R_keptB ((Kd.R_apart' HO_485001.out (Kd.R_typed HO_13.out) (by decide))) hkp (fun k_ hk_ hs_ => (hk_.2) hs_)) (fun k_ hk_ => hk_.1.1.2));have n4_ := aM (blk_kept (by exact kP BK467.out) hkp (fun hs_ => (fun e_ => (Kd.R_ne HO_13.out BK467.out (by decide)) e_) hs_));have n5_ := aM (blk_kept (by exact kP BK484.out) hkp (fun hs_ => (fun e_ => (Kd.R_ne HO_13.out BK484.out (by decide)) e_) hs_));have n6_ := aM (Kd.R_mono (ok' := fun k_ => some k_ ≠ (.slice Ao33 t481.length co33 : Value).ownBlock) (Kd.R_keptB ((Kd.R_apart' HO496.out (Kd.R_typed HO_13.out) (by decide))) hkp (fun k_ hk_ hs_ => (hk_.2) hs_)) (fun k_ hk_ => hk_.1.1));have n7_ := aM (Kd.R_mono (ok' := fun k_ => some k_ ≠ (.slice Ao36 t485.length co36 : Value).ownBlock) (Kd.R_keptB (HO500.out) hkp (fun k_ hk_ hs_ => (hk_) hs_)) (fun k_ hk_ => hk_.1));have n8_ := aM (hb);clear HO_10;clear HO_13;clear HO_14;clear HO_485001;clear BK467;clear BK484;clear HO496;clear HO500;clear HB;have HO_10 := n0_;have HO_13 := n1_;have HO_14 := n2_;have HO_485001 := n3_;have BK467 := n4_;have BK484 := n5_;have HO496 := n6_;have HO500 := n7_;have HB := n8_;clear n0_ n1_ n2_ n3_ n4_ n5_ n6_ n7_ n8_;(try clear hb);(try clear hkp);(try clear hy0)))
   (try simp only [Act.put, List.setIfInBounds_toArray, List.set_cons_zero, List.set_cons_succ])
   go_cut [88] (fun v88 wc => ∃ (P9_ : Nat → Prop) (kq : Nat) (x88_52 : Bool), v88 = .bool x88_52 ∧ Aside0 (laws_FnExactGuardAnswers.j1 kq l1 a2 a3 t476 t479 t488 x88_52 a0_0 l0_1 = some r) ∧ Aside0 (kq ≤ kj17) ∧ Aside0 (Kd.N (Kd.slice 3 (Kd.int .i64)) 32 wc w.heap.size (fun k_ => ¬ P9_ k_) v477 t476) ∧ Aside0 (Kd.S (Kd.slice 3 (Kd.int .i64)) 32 wc w.heap.size (fun k_ => P9_ k_) v489 t488) ∧ Aside0 (Kd.R k92 92 wc w.heap.size (fun _ => True) (.slice Ao33 t481.length co33) t503) ∧ Aside0 (wc.heap[gb467]? = some (.cells #[.int .i64 a0_0, (.slice A0_1 l0_1.length c0_1)] 24 (0, 0))) ∧ Aside0 (wc.heap[gb484]? = some (.cells #[.int .i64 t480, (.slice Ao33 t481.length co33)] 28 (0, 0))) ∧ Aside0 (Below w.heap.size w wc))
   case first =>
    have H := HC53.out
    clear HC53
    by_cases c64 : t504 < 0
    ·rw [if_pos c64] at H
     have c64b0 : decide (t504 < 0) = true := decide_eq_true c64
     clear c64
     (first | rw [c64b0] | (simp only [i64_w, i32_w];rw [c64b0]) | skip)
     have H' := Aside0.mk H
     clear H
     go_wp2
     go_meet
     case rel => exact ⟨P9_, _, (true), (by first | rfl | (simp;done) | (simp [*];done)), H', ⟨by have := HJ17.out;first | omega | exact Nat.le_refl _⟩, ⟨by (with_reducible repeat (first | apply Kd.R_alloc | apply Kd.S_alloc | apply Kd.N_alloc | apply Kd.R_drewN | apply Kd.S_drewN | apply Kd.N_drewN | apply Kd.R_drew | apply Kd.S_drew | apply Kd.N_drew));exact HO_10.out⟩, ⟨by (with_reducible repeat (first | apply Kd.R_alloc | apply Kd.S_alloc | apply Kd.N_alloc | apply Kd.R_drewN | apply Kd.S_drewN | apply Kd.N_drewN | apply Kd.R_drew | apply Kd.S_drew | apply Kd.N_drew));exact HO_14.out⟩, ⟨by (with_reducible repeat (first | apply Kd.R_alloc | apply Kd.S_alloc | apply Kd.N_alloc | apply Kd.R_drewN | apply Kd.S_drewN | apply Kd.N_drewN | apply Kd.R_drew | apply Kd.S_drew | apply Kd.N_drew));exact Kd.R_mono HO_485001.out (fun _ hk => trivial)⟩, ⟨by exact kP BK467.out⟩, ⟨by exact kP BK484.out⟩, ⟨by exact bB⟩⟩
    rw [if_neg c64] at H
    have c64b0 : decide (t504 < 0) = false := decide_eq_false c64
    clear c64
    (first | rw [c64b0] | (simp only [i64_w, i32_w];rw [c64b0]) | skip)
    replace H := Option.bind_eq_some_iff.mp H
    obtain ⟨t506, A650, H⟩ := H
    replace H : (if t506 = true then (laws_FnExactGuardAnswers.j1 kj17 l1 a2 a3 t476 t479 t488 (t491 != t479) a0_0 l0_1) else (laws_FnExactGuardAnswers.j1 kj17 l1 a2 a3 t476 t479 t488 true a0_0 l0_1)) = some r := H
    have A65 := Aside0.mk A650
    clear A650
    by_cases c66 : t506 = true
    ·subst c66
     have H1 : (laws_FnExactGuardAnswers.j1 kj17 l1 a2 a3 t476 t479 t488 (t491 != t479) a0_0 l0_1) = some r := by rw [if_pos rfl] at H;exact H
     clear H
     have H := H1
     clear H1
     have H' := Aside0.mk H
     clear H
     obtain ⟨Ao67, co67, eo67⟩ := Kd.S_slice HO_14.out
     subst eo67
     obtain ⟨Ao68, co68, eo68⟩ := Kd.N_slice HO_10.out
     subst eo68
     go_wp2_with (first | (go_at_call 24;(with_reducible refine (laws_eqIntSS.calls kj17 _ _ t488 _ _ t476 true _ ?side1 ?side2 ?side3 ?side4 A65.out).mono ?_);(case side1 => exact cP (Kd.S_reads' HO_14.out).2.2);(case side2 => exact (Kd.S_reads' HO_14.out).2.1);(case side3 => exact cP (Kd.N_reads' HO_10.out).2.2);(case side4 => exact (Kd.N_reads' HO_10.out).2.1);rintro e w' ⟨rfl, ⟨nd, rfl⟩⟩))
     go_meet
     case rel => exact ⟨P9_, _, ((t491 != t479)), (by first | rfl | (simp;done) | (simp [*];done)), H', ⟨by have := HJ17.out;first | omega | exact Nat.le_refl _⟩, ⟨by (with_reducible repeat (first | apply Kd.R_alloc | apply Kd.S_alloc | apply Kd.N_alloc | apply Kd.R_drewN | apply Kd.S_drewN | apply Kd.N_drewN | apply Kd.R_drew | apply Kd.S_drew | apply Kd.N_drew));exact HO_10.out⟩, ⟨by (with_reducible repeat (first | apply Kd.R_alloc | apply Kd.S_alloc | apply Kd.N_alloc | apply Kd.R_drewN | apply Kd.S_drewN | apply Kd.N_drewN | apply Kd.R_drew | apply Kd.S_drew | apply Kd.N_drew));exact HO_14.out⟩, ⟨by (with_reducible repeat (first | apply Kd.R_alloc | apply Kd.S_alloc | apply Kd.N_alloc | apply Kd.R_drewN | apply Kd.S_drewN | apply Kd.N_drewN | apply Kd.R_drew | apply Kd.S_drew | apply Kd.N_drew));exact Kd.R_mono HO_485001.out (fun _ hk => trivial)⟩, ⟨by exact kP BK467.out⟩, ⟨by exact kP BK484.out⟩, ⟨by exact bB⟩⟩
    replace c66 := Bool.eq_false_iff.mpr c66
    subst c66
    have H1 : (laws_FnExactGuardAnswers.j1 kj17 l1 a2 a3 t476 t479 t488 true a0_0 l0_1) = some r := by rw [if_neg (show ¬ (false = true) by decide)] at H;exact H
    clear H
    have H := H1
    clear H1
    have H' := Aside0.mk H
    clear H
    obtain ⟨Ao69, co69, eo69⟩ := Kd.S_slice HO_14.out
    subst eo69
    obtain ⟨Ao70, co70, eo70⟩ := Kd.N_slice HO_10.out
    subst eo70
    go_wp2_with (first | (go_at_call 24;(with_reducible refine (laws_eqIntSS.calls kj17 _ _ t488 _ _ t476 false _ ?side1 ?side2 ?side3 ?side4 A65.out).mono ?_);(case side1 => exact cP (Kd.S_reads' HO_14.out).2.2);(case side2 => exact (Kd.S_reads' HO_14.out).2.1);(case side3 => exact cP (Kd.N_reads' HO_10.out).2.2);(case side4 => exact (Kd.N_reads' HO_10.out).2.1);rintro e w' ⟨rfl, ⟨nd, rfl⟩⟩))
    go_meet
    case rel => exact ⟨P9_, _, (true), (by first | rfl | (simp;done) | (simp [*];done)), H', ⟨by have := HJ17.out;first | omega | exact Nat.le_refl _⟩, ⟨by (with_reducible repeat (first | apply Kd.R_alloc | apply Kd.S_alloc | apply Kd.N_alloc | apply Kd.R_drewN | apply Kd.S_drewN | apply Kd.N_drewN | apply Kd.R_drew | apply Kd.S_drew | apply Kd.N_drew));exact HO_10.out⟩, ⟨by (with_reducible repeat (first | apply Kd.R_alloc | apply Kd.S_alloc | apply Kd.N_alloc | apply Kd.R_drewN | apply Kd.S_drewN | apply Kd.N_drewN | apply Kd.R_drew | apply Kd.S_drew | apply Kd.N_drew));exact HO_14.out⟩, ⟨by (with_reducible repeat (first | apply Kd.R_alloc | apply Kd.S_alloc | apply Kd.N_alloc | apply Kd.R_drewN | apply Kd.S_drewN | apply Kd.N_drewN | apply Kd.R_drew | apply Kd.S_drew | apply Kd.N_drew));exact Kd.R_mono HO_485001.out (fun _ hk => trivial)⟩, ⟨by exact kP BK467.out⟩, ⟨by exact kP BK484.out⟩, ⟨by exact bB⟩⟩
   case rest =>
    clear HC53
    try clear c1
    try clear c2
    try clear p2
    try clear c3
    try clear c4
    try clear c5
    try clear c5b0
    try clear c5b1
    try clear c6
    try clear c8
    try clear c8b0
    try clear c9
    try clear c11
    try clear c13
    try clear c15
    try clear c17
    try clear c19
    try clear c24
    try clear c27
    try clear c28
    try clear c31
    try clear c36
    try clear c37
    try clear c39
    try clear c44
    try clear c47
    try clear c50
    try clear c60
    try clear c64
    try clear c64b0
    try clear c66
    try clear hcz10_0
    try clear hcz10_1
    try clear hcz20_0
    try clear hcz20_1
    try clear hcz22_0
    try clear hcz22_1
    try clear hcz28_0
    try clear hcz28_1
    try clear hcz32_0
    try clear hcz32_1
    try clear hcz35_0
    try clear hcz35_1
    try clear hcz61_0
    try clear hcz61_1
    try clear hfz10_0
    try clear hfz10_1
    try clear hfz20_0
    try clear hfz20_1
    try clear hfz22_0
    try clear hfz22_1
    try clear hfz28_0
    try clear hfz28_1
    try clear hfz32_0
    try clear hfz32_1
    try clear hfz35_0
    try clear hfz35_1
    try clear hfz61_0
    try clear hfz61_1
    try clear p2
    obtain ⟨P9_, kq, x88_52, rfl, HA, HJ52, HO_10, HO_14, HO_485001, BK467, BK484, HB⟩ := hcut
    have hl485001_52 := (Kd.R_reads' HO_485001.out).1
    rw [hl485001_52] at HO_485001
    (try simp only [hl485001_52])
    (try simp only [hl485001_52] at BK467)
    (try simp only [hl485001_52] at BK484)
    (try simp only [hl485001_52] at HO_10)
    (try simp only [hl485001_52] at HO_14)
    cases kq with
    | zero => exact absurd HA.out (by simp [laws_FnExactGuardAnswers.j1])
    | succ kj52 =>
     have H := HA.out
     clear HA
     simp only [laws_FnExactGuardAnswers.j1] at H
     by_cases c71 : x88_52 = true
     ·subst c71
      have H1 : (some false) = some r := by rw [if_pos rfl] at H;exact H
      clear H
      have H := H1
      clear H1
      obtain rfl := Option.some.inj H
      go_wp2
      go_ret
      exact ⟨by first | rfl | (simp [errW_none, errW_some] <;> rfl) | (simp [*, errW_none, errW_some] <;> rfl), by exact bB⟩
     replace c71 := Bool.eq_false_iff.mpr c71
     subst c71
     have H1 : ((laws_markIntSS.f kj52 t488 1).bind fun bt507 => ((laws_heldIntSS.f kj52 bt507.2 1).bind fun t509 => (if t509 < 0 then (some false) else (if t509 = bt507.1 then ((laws_toGraph.f kj52 a0_0 l0_1).bind fun bt510 => ((laws_toIntS.f kj52 l1).bind fun t514 => ((impl_GuardAnswers.f kj52 bt510.1 bt510.2 t514 a2 a3).bind fun bt517 => ((laws_eqIntSS.f kj52 bt517.1 t476).bind fun t521 => (if t521 = true then (laws_FnExactGuardAnswers.j2 kj52 bt507.2 bt507.1 (bt517.2 != t479)) else (laws_FnExactGuardAnswers.j2 kj52 bt507.2 bt507.1 true)))))) else (some false))))) = some r := by rw [if_neg (show ¬ (false = true) by decide)] at H;exact H
     clear H
     have H := H1
     clear H1
     replace H := Option.bind_eq_some_iff.mp H
     obtain ⟨⟨t507, t508⟩, A720, H⟩ := H
     replace H : ((laws_heldIntSS.f kj52 t508 1).bind fun t509 => (if t509 < 0 then (some false) else (if t509 = t507 then ((laws_toGraph.f kj52 a0_0 l0_1).bind fun bt510 => ((laws_toIntS.f kj52 l1).bind fun t514 => ((impl_GuardAnswers.f kj52 bt510.1 bt510.2 t514 a2 a3).bind fun bt517 => ((laws_eqIntSS.f kj52 bt517.1 t476).bind fun t521 => (if t521 = true then (laws_FnExactGuardAnswers.j2 kj52 t508 t507 (bt517.2 != t479)) else (laws_FnExactGuardAnswers.j2 kj52 t508 t507 true)))))) else (some false)))) = some r := H
     have A72 := Aside0.mk A720
     clear A720
     replace H := Option.bind_eq_some_iff.mp H
     obtain ⟨t509, A730, H⟩ := H
     replace H : (if t509 < 0 then (some false) else (if t509 = t507 then ((laws_toGraph.f kj52 a0_0 l0_1).bind fun bt510 => ((laws_toIntS.f kj52 l1).bind fun t514 => ((impl_GuardAnswers.f kj52 bt510.1 bt510.2 t514 a2 a3).bind fun bt517 => ((laws_eqIntSS.f kj52 bt517.1 t476).bind fun t521 => (if t521 = true then (laws_FnExactGuardAnswers.j2 kj52 t508 t507 (bt517.2 != t479)) else (laws_FnExactGuardAnswers.j2 kj52 t508 t507 true)))))) else (some false))) = some r := H
     have A73 := Aside0.mk A730
     clear A730
     by_cases c74 : t509 < 0
     ·rw [if_pos c74] at H
      have c74b0 : decide (t509 < 0) = true := decide_eq_true c74
      clear c74
      obtain rfl := Option.some.inj H
      obtain ⟨Ao75, co75, eo75⟩ := Kd.S_slice HO_14.out
      subst eo75
      go_wp2_with (first | ((with_reducible refine gate_callee (f := 32) rfl ?_);refine goesL_ (some 91) rfl rfl Tryd.func32 (by kernel_rfl) rfl #[.slice Ao75 t488.length co75, .int .i64 1] rfl mM ?_;(with_reducible refine (laws_markIntSS.calls kj52 ?P9a0 (.slice Ao75 t488.length co75) t488 1 t507 t508 w _ ?side1 ?side2 A72.out).mono ?_);(case side1 => exact bB);(case side2 => exact mine9 HO_14.out);rintro e w76 ⟨rfl, hy0, hb, hkp⟩;refine ⟨_, rfl, ?_⟩;have n0_ := aM (Kd.N_mono (ok' := fun k_ => ¬ P9_ k_) (Kd.N_keptB HO_10.out hkp (fun k_ hk_ hs_ => hk_ hs_.1)) (fun k_ hk_ => hk_.1));have n1_ := aM (Kd.S_mono (ok' := fun k_ => True) hy0 (fun _ _ => trivial));have n2_ := aM (Kd.R_mono (ok' := fun k_ => True) (Kd.R_keptB (mine9_R HO_485001.out (by decide)) hkp (fun k_ hk_ hs_ => hk_ hs_)) (fun k_ hk_ => trivial));have n3_ := aM (blk_kept (by exact kP BK467.out) hkp (fun hs_ => mine9_block hs_ BK467.out (by decide)));have n4_ := aM (blk_kept (by exact kP BK484.out) hkp (fun hs_ => mine9_block hs_ BK484.out (by decide)));have n5_ := aM (hb);clear HO_10;clear HO_14;clear HO_485001;clear BK467;clear BK484;clear HB;have HO_10 := n0_;have HO_14 := n1_;have HO_485001 := n2_;have BK467 := n3_;have BK484 := n4_;have HB := n5_;clear n0_ n1_ n2_ n3_ n4_ n5_;(try clear hb);(try clear hkp);(try clear hy0)) | ((with_reducible refine gate_callee (f := 33) rfl ?_);refine goesL_ (some 94) rfl rfl Tryd.func33 (by kernel_rfl) rfl #[.slice Ao75 t508.length co75, .int .i64 1] rfl (by (try simp only [List.map_toArray, List.map_cons, List.map_nil]);first | done | (rw [show t508.length = t488.length from (Kd.S_reads' HO_14.out).1.symm] <;> rfl) | rfl | (simp only [List.length_drop, List.length_take];rfl)) ?_;(with_reducible refine (laws_heldIntSS.calls kj52 _ _ t508 1 t509 _ ?side1 ?side2 A73.out).mono ?_);(case side1 => exact cP (Kd.S_reads' HO_14.out).2.2);(case side2 => rw [show t508.length = t488.length from (Kd.S_reads' HO_14.out).1.symm];exact (Kd.S_reads' HO_14.out).2.1);rintro e w' ⟨rfl, ⟨nd, rfl⟩⟩;refine ⟨_, rfl, ?_⟩))
      go_ret
      exact ⟨by first | rfl | (simp [errW_none, errW_some] <;> rfl) | (simp [*, errW_none, errW_some] <;> rfl), by exact bB⟩
     rw [if_neg c74] at H
     have c74b0 : decide (t509 < 0) = false := decide_eq_false c74
     clear c74
     by_cases c77 : t509 = t507
     rotate_left
     ·rw [if_neg c77] at H
      have c77b0 : (t509 == t507) = false := beq_eq_false_iff_ne.mpr c77
      have c77b1 : (t509 != t507) = true := bne_iff_ne.mpr c77
      obtain rfl := Option.some.inj H
      obtain ⟨Ao101, co101, eo101⟩ := Kd.S_slice HO_14.out
      subst eo101
      go_wp2_with (first | ((with_reducible refine gate_callee (f := 32) rfl ?_);refine goesL_ (some 91) rfl rfl Tryd.func32 (by kernel_rfl) rfl #[.slice Ao101 t488.length co101, .int .i64 1] rfl mM ?_;(with_reducible refine (laws_markIntSS.calls kj52 ?P9a2 (.slice Ao101 t488.length co101) t488 1 t507 t508 w _ ?side1 ?side2 A72.out).mono ?_);(case side1 => exact bB);(case side2 => exact mine9 HO_14.out);rintro e w102 ⟨rfl, hy0, hb, hkp⟩;refine ⟨_, rfl, ?_⟩;have n0_ := aM (Kd.N_mono (ok' := fun k_ => ¬ P9_ k_) (Kd.N_keptB HO_10.out hkp (fun k_ hk_ hs_ => hk_ hs_.1)) (fun k_ hk_ => hk_.1));have n1_ := aM (Kd.S_mono (ok' := fun k_ => True) hy0 (fun _ _ => trivial));have n2_ := aM (Kd.R_mono (ok' := fun k_ => True) (Kd.R_keptB (mine9_R HO_485001.out (by decide)) hkp (fun k_ hk_ hs_ => hk_ hs_)) (fun k_ hk_ => trivial));have n3_ := aM (blk_kept (by exact kP BK467.out) hkp (fun hs_ => mine9_block hs_ BK467.out (by decide)));have n4_ := aM (blk_kept (by exact kP BK484.out) hkp (fun hs_ => mine9_block hs_ BK484.out (by decide)));have n5_ := aM (hb);clear HO_10;clear HO_14;clear HO_485001;clear BK467;clear BK484;clear HB;have HO_10 := n0_;have HO_14 := n1_;have HO_485001 := n2_;have BK467 := n3_;have BK484 := n4_;have HB := n5_;clear n0_ n1_ n2_ n3_ n4_ n5_;(try clear hb);(try clear hkp);(try clear hy0)) | ((with_reducible refine gate_callee (f := 33) rfl ?_);refine goesL_ (some 94) rfl rfl Tryd.func33 (by kernel_rfl) rfl #[.slice Ao101 t508.length co101, .int .i64 1] rfl (by (try simp only [List.map_toArray, List.map_cons, List.map_nil]);first | done | (rw [show t508.length = t488.length from (Kd.S_reads' HO_14.out).1.symm] <;> rfl) | rfl | (simp only [List.length_drop, List.length_take];rfl)) ?_;(with_reducible refine (laws_heldIntSS.calls kj52 _ _ t508 1 t509 _ ?side1 ?side2 A73.out).mono ?_);(case side1 => exact cP (Kd.S_reads' HO_14.out).2.2);(case side2 => rw [show t508.length = t488.length from (Kd.S_reads' HO_14.out).1.symm];exact (Kd.S_reads' HO_14.out).2.1);rintro e w' ⟨rfl, ⟨nd, rfl⟩⟩;refine ⟨_, rfl, ?_⟩))
      go_ret
      exact ⟨by first | rfl | (simp [errW_none, errW_some] <;> rfl) | (simp [*, errW_none, errW_some] <;> rfl), by exact bB⟩
     rw [if_pos c77] at H
     have c77b0 : (t509 == t507) = true := beq_iff_eq.mpr c77
     have c77b1 : (t509 != t507) = false := bne_eq_false_iff_eq.mpr c77
     clear c77
     replace H := Option.bind_eq_some_iff.mp H
     obtain ⟨⟨t510, t511⟩, A780, H⟩ := H
     replace H : ((laws_toIntS.f kj52 l1).bind fun t514 => ((impl_GuardAnswers.f kj52 t510 t511 t514 a2 a3).bind fun bt517 => ((laws_eqIntSS.f kj52 bt517.1 t476).bind fun t521 => (if t521 = true then (laws_FnExactGuardAnswers.j2 kj52 t508 t507 (bt517.2 != t479)) else (laws_FnExactGuardAnswers.j2 kj52 t508 t507 true))))) = some r := H
     have A78 := Aside0.mk A780
     clear A780
     replace H := Option.bind_eq_some_iff.mp H
     obtain ⟨t514, A790, H⟩ := H
     replace H : ((impl_GuardAnswers.f kj52 t510 t511 t514 a2 a3).bind fun bt517 => ((laws_eqIntSS.f kj52 bt517.1 t476).bind fun t521 => (if t521 = true then (laws_FnExactGuardAnswers.j2 kj52 t508 t507 (bt517.2 != t479)) else (laws_FnExactGuardAnswers.j2 kj52 t508 t507 true)))) = some r := H
     have A79 := Aside0.mk A790
     clear A790
     replace H := Option.bind_eq_some_iff.mp H
     obtain ⟨⟨t517, t520⟩, A800, H⟩ := H
     replace H : ((laws_eqIntSS.f kj52 t517 t476).bind fun t521 => (if t521 = true then (laws_FnExactGuardAnswers.j2 kj52 t508 t507 (t520 != t479)) else (laws_FnExactGuardAnswers.j2 kj52 t508 t507 true))) = some r := H
     have A80 := Aside0.mk A800
     clear A800
     have HC81 := Aside0.mk H
     clear H
     obtain ⟨Ao82, co82, eo82⟩ := Kd.S_slice HO_14.out
     subst eo82
     go_upto_region 31 with (first | ((with_reducible refine gate_callee (f := 32) rfl ?_);refine goesL_ (some 91) rfl rfl Tryd.func32 (by kernel_rfl) rfl #[.slice Ao82 t488.length co82, .int .i64 1] rfl mM ?_;(with_reducible refine (laws_markIntSS.calls kj52 ?P9a1 (.slice Ao82 t488.length co82) t488 1 t507 t508 w _ ?side1 ?side2 A72.out).mono ?_);(case side1 => exact bB);(case side2 => exact mine9 HO_14.out);rintro e w83 ⟨rfl, hy0, hb, hkp⟩;refine ⟨_, rfl, ?_⟩;have n0_ := aM (Kd.N_mono (ok' := fun k_ => ¬ P9_ k_) (Kd.N_keptB HO_10.out hkp (fun k_ hk_ hs_ => hk_ hs_.1)) (fun k_ hk_ => hk_.1));have n1_ := aM (Kd.S_mono (ok' := fun k_ => True) hy0 (fun _ _ => trivial));have n2_ := aM (Kd.R_mono (ok' := fun k_ => True) (Kd.R_keptB (mine9_R HO_485001.out (by decide)) hkp (fun k_ hk_ hs_ => hk_ hs_)) (fun k_ hk_ => trivial));have n3_ := aM (blk_kept (by exact kP BK467.out) hkp (fun hs_ => mine9_block hs_ BK467.out (by decide)));have n4_ := aM (blk_kept (by exact kP BK484.out) hkp (fun hs_ => mine9_block hs_ BK484.out (by decide)));have n5_ := aM (hb);clear HO_10;clear HO_14;clear HO_485001;clear BK467;clear BK484;clear HB;have HO_10 := n0_;have HO_14 := n1_;have HO_485001 := n2_;have BK467 := n3_;have BK484 := n4_;have HB := n5_;clear n0_ n1_ n2_ n3_ n4_ n5_;(try clear hb);(try clear hkp);(try clear hy0)) | ((with_reducible refine gate_callee (f := 33) rfl ?_);refine goesL_ (some 94) rfl rfl Tryd.func33 (by kernel_rfl) rfl #[.slice Ao82 t508.length co82, .int .i64 1] rfl (by (try simp only [List.map_toArray, List.map_cons, List.map_nil]);first | done | (rw [show t508.length = t488.length from (Kd.S_reads' HO_14.out).1.symm] <;> rfl) | rfl | (simp only [List.length_drop, List.length_take];rfl)) ?_;(with_reducible refine (laws_heldIntSS.calls kj52 _ _ t508 1 t509 _ ?side1 ?side2 A73.out).mono ?_);(case side1 => exact cP (Kd.S_reads' HO_14.out).2.2);(case side2 => rw [show t508.length = t488.length from (Kd.S_reads' HO_14.out).1.symm];exact (Kd.S_reads' HO_14.out).2.1);rintro e w' ⟨rfl, ⟨nd, rfl⟩⟩;refine ⟨_, rfl, ?_⟩;have hnb84 := NB467_484.out;have hnc84 := NB484_467.out;have hcz85_0 := bC0 BK467.out;have hcz85_1 := bC1 BK467.out;have hfz85_0 := blk_frozen BK467.out 0;have hfz85_1 := blk_frozen BK467.out 1) | ((with_reducible refine gate_callee (f := 13) rfl ?_);refine goesL_ (some 102) rfl rfl Tryd.func13 (by kernel_rfl) rfl #[.agg #[.int .i64 a0_0, .slice A0_1 l0_1.length c0_1]] rfl mM ?_;(with_reducible refine (laws_toGraph.calls kj52 a0_0 _ _ l0_1 t510 t511 _ ?side1 ?side2 A78.out).mono ?_);(case side1 => exact cP (Kd.C_below HR0_1.out (by repeat (first | (with_reducible first | exact HB.out | apply below_alloc | apply pw_below_drewN | apply below_drew1 | refine below_set ?_ GE467.out | refine below_set ?_ GE484.out) | exact HB.out))));(case side2 => exact HC0_1.out);rintro e w86 ⟨v512, rfl, ho0, hb⟩;refine ⟨_, rfl, ?_⟩;have n0_ := aM (Kd.N_below (by (with_reducible repeat (first | apply Kd.R_alloc | apply Kd.S_alloc | apply Kd.N_alloc | apply Kd.R_drewN | apply Kd.S_drewN | apply Kd.N_drewN | apply Kd.R_drew | apply Kd.S_drew | apply Kd.N_drew));exact HO_10.out) hb);have n1_ := aM (Kd.S_below (by (with_reducible repeat (first | apply Kd.R_alloc | apply Kd.S_alloc | apply Kd.N_alloc | apply Kd.R_drewN | apply Kd.S_drewN | apply Kd.N_drewN | apply Kd.R_drew | apply Kd.S_drew | apply Kd.N_drew));exact HO_14.out) hb);have n2_ := aM (Kd.R_elder' (by (with_reducible repeat (first | apply Kd.R_alloc | apply Kd.S_alloc | apply Kd.N_alloc | apply Kd.R_drewN | apply Kd.S_drewN | apply Kd.N_drewN | apply Kd.R_drew | apply Kd.S_drew | apply Kd.N_drew));exact HO_485001.out) (Kd.R_base ho0) hb);have n3_ := aM (Kd.R_lower (Kd.R_new' ho0 (Kd.R_lt (by (with_reducible repeat (first | apply Kd.R_alloc | apply Kd.S_alloc | apply Kd.N_alloc | apply Kd.R_drewN | apply Kd.S_drewN | apply Kd.N_drewN | apply Kd.R_drew | apply Kd.S_drew | apply Kd.N_drew));exact HO_485001.out))) (below_size (by exact bB)));have n4_ := aM (kB hb BK467.out);have n5_ := aM (kB hb BK484.out);have n6_ := aM (below_step (by exact bB) hb);clear HO_10;clear HO_14;clear HO_485001;clear BK467;clear BK484;clear HB;have HO_10 := n0_;have HO_14 := n1_;have HO_485001 := n2_;have HO513 := n3_;have BK467 := n4_;have BK484 := n5_;have HB := n6_;clear n0_ n1_ n2_ n3_ n4_ n5_ n6_;(try clear hb);(try clear hb2);(try clear hk);(try clear hi);(try clear ho0)) | ((with_reducible refine gate_callee (f := 17) rfl ?_);refine goesL_ (some 104) rfl rfl Tryd.func17 (by kernel_rfl) rfl #[.slice A1 l1.length c1] rfl mM ?_;(with_reducible refine (laws_toIntS.calls kj52 _ _ l1 t514 _ ?side1 ?side2 A79.out).mono ?_);(case side1 => exact cP (Kd.C_below HR1.out HB.out));(case side2 => exact HC1.out);rintro e w87 ⟨v515, rfl, ho0, hb⟩;refine ⟨_, rfl, ?_⟩;have n0_ := aM (Kd.N_below (by (with_reducible repeat (first | apply Kd.R_alloc | apply Kd.S_alloc | apply Kd.N_alloc | apply Kd.R_drewN | apply Kd.S_drewN | apply Kd.N_drewN | apply Kd.R_drew | apply Kd.S_drew | apply Kd.N_drew));exact HO_10.out) hb);have n1_ := aM (Kd.S_below (by (with_reducible repeat (first | apply Kd.R_alloc | apply Kd.S_alloc | apply Kd.N_alloc | apply Kd.R_drewN | apply Kd.S_drewN | apply Kd.N_drewN | apply Kd.R_drew | apply Kd.S_drew | apply Kd.N_drew));exact HO_14.out) hb);have n2_ := aM (Kd.R_below (by (with_reducible repeat (first | apply Kd.R_alloc | apply Kd.S_alloc | apply Kd.N_alloc | apply Kd.R_drewN | apply Kd.S_drewN | apply Kd.N_drewN | apply Kd.R_drew | apply Kd.S_drew | apply Kd.N_drew));exact HO_485001.out) hb);have n3_ := aM (Kd.R_below (by (with_reducible repeat (first | apply Kd.R_alloc | apply Kd.S_alloc | apply Kd.N_alloc | apply Kd.R_drewN | apply Kd.S_drewN | apply Kd.N_drewN | apply Kd.R_drew | apply Kd.S_drew | apply Kd.N_drew));exact HO513.out) hb);have n4_ := aM (Kd.R_lower ho0 (below_size (by exact bB)));have n5_ := aM (kB hb BK467.out);have n6_ := aM (kB hb BK484.out);have n7_ := aM (below_step (by exact bB) hb);clear HO_10;clear HO_14;clear HO_485001;clear HO513;clear BK467;clear BK484;clear HB;have HO_10 := n0_;have HO_14 := n1_;have HO_485001 := n2_;have HO513 := n3_;have HO516 := n4_;have BK467 := n5_;have BK484 := n6_;have HB := n7_;clear n0_ n1_ n2_ n3_ n4_ n5_ n6_ n7_;(try clear hb);(try clear hb2);(try clear hk);(try clear hi);(try clear ho0);obtain ⟨Ao88, co88, eo88⟩ := Kd.R_slice HO513.out;subst eo88;obtain ⟨Ao89, co89, eo89⟩ := Kd.R_slice HO516.out;subst eo89) | ((with_reducible refine gate_callee (f := 37) rfl ?_);refine goesL_ (some 107) rfl rfl Tryd.func37 (by kernel_rfl) rfl #[.agg #[.int .i64 t510, .slice Ao88 t511.length co88], .slice Ao89 t514.length co89, .int .i64 a2, .bool a3] rfl mM ?_;(with_reducible refine (impl_GuardAnswers.calls kj52 t510 _ _ t511 _ _ t514 a2 a3 t517 t520 _ ?sideT ?side1 ?side2 ?side3 ?side4 A80.out).mono ?_);(case sideT => exact tabG_below HT.out (by exact bB));(case side1 => exact cP (Kd.R_reads' HO513.out).2.2);(case side2 => exact (Kd.R_reads' HO513.out).2.1);(case side3 => exact cP (Kd.R_reads' HO516.out).2.2);(case side4 => exact (Kd.R_reads' HO516.out).2.1);rintro e w90 ⟨v518, rfl, ho0, hb⟩;refine ⟨_, rfl, ?_⟩;have n0_ := aM (Kd.N_elder' (by (with_reducible repeat (first | apply Kd.R_alloc | apply Kd.S_alloc | apply Kd.N_alloc | apply Kd.R_drewN | apply Kd.S_drewN | apply Kd.N_drewN | apply Kd.R_drew | apply Kd.S_drew | apply Kd.N_drew));exact HO_10.out) (Kd.S_base ho0) hb);have n1_ := aM (Kd.S_elder' (by (with_reducible repeat (first | apply Kd.R_alloc | apply Kd.S_alloc | apply Kd.N_alloc | apply Kd.R_drewN | apply Kd.S_drewN | apply Kd.N_drewN | apply Kd.R_drew | apply Kd.S_drew | apply Kd.N_drew));exact HO_14.out) (Kd.S_base ho0) hb);have n2_ := aM (Kd.R_below (by (with_reducible repeat (first | apply Kd.R_alloc | apply Kd.S_alloc | apply Kd.N_alloc | apply Kd.R_drewN | apply Kd.S_drewN | apply Kd.N_drewN | apply Kd.R_drew | apply Kd.S_drew | apply Kd.N_drew));exact HO_485001.out) hb);have n3_ := aM (Kd.R_below (by (with_reducible repeat (first | apply Kd.R_alloc | apply Kd.S_alloc | apply Kd.N_alloc | apply Kd.R_drewN | apply Kd.S_drewN | apply Kd.N_drewN | apply Kd.R_drew | apply Kd.S_drew | apply Kd.N_drew));exact HO513.out) hb);have n4_ := aM (Kd.R_below (by (with_reducible repeat (first | apply Kd.R_alloc | apply Kd.S_alloc | apply Kd.N_alloc | apply Kd.R_drewN | apply Kd.S_drewN | apply Kd.N_drewN | apply Kd.R_drew | apply Kd.S_drew | apply Kd.N_drew));exact HO516.out) hb);have n5_ := aM (Kd.S_lower (Kd.S_new' (Kd.S_new' ho0 (Kd.N_lt (by (with_reducible repeat (first | apply Kd.R_alloc | apply Kd.S_alloc | apply Kd.N_alloc | apply Kd.R_drewN | apply Kd.S_drewN | apply Kd.N_drewN | apply Kd.R_drew | apply Kd.S_drew | apply Kd.N_drew));exact HO_10.out))) (Kd.S_lt (by (with_reducible repeat (first | apply Kd.R_alloc | apply Kd.S_alloc | apply Kd.N_alloc | apply Kd.R_drewN | apply Kd.S_drewN | apply Kd.N_drewN | apply Kd.R_drew | apply Kd.S_drew | apply Kd.N_drew));exact HO_14.out))) (below_size (by exact bB)));have n6_ := aM (kB hb BK467.out);have n7_ := aM (kB hb BK484.out);have n8_ := aM (below_step (by exact bB) hb);clear HO_10;clear HO_14;clear HO_485001;clear HO513;clear HO516;clear BK467;clear BK484;clear HB;have HO_10 := n0_;have HO_14 := n1_;have HO_485001 := n2_;have HO513 := n3_;have HO516 := n4_;have HO519 := n5_;have BK467 := n6_;have BK484 := n7_;have HB := n8_;clear n0_ n1_ n2_ n3_ n4_ n5_ n6_ n7_ n8_;(try clear hb);(try clear hb2);(try clear hk);(try clear hi);(try clear ho0)))
     (try simp only [Act.put, List.setIfInBounds_toArray, List.set_cons_zero, List.set_cons_succ])
     go_cut [118] (fun v118 wc => ∃ (kq : Nat) (x118_80 : Bool), v118 = .bool x118_80 ∧ Aside0 (laws_FnExactGuardAnswers.j2 kq t508 t507 x118_80 = some r) ∧ Aside0 (kq ≤ kj52) ∧ Aside0 (Kd.S (Kd.slice 3 (Kd.int .i64)) 32 wc w.heap.size (fun k_ => True) (.slice Ao82 t488.length co82) t508) ∧ Aside0 (Kd.R k92 92 wc w.heap.size (fun _ => True) (.slice Ao33 t503.length co33) t503) ∧ Aside0 (wc.heap[gb467]? = some (.cells #[.int .i64 a0_0, (.slice A0_1 l0_1.length c0_1)] 24 (0, 0))) ∧ Aside0 (wc.heap[gb484]? = some (.cells #[.int .i64 t480, (.slice Ao33 t503.length co33)] 28 (0, 0))) ∧ Aside0 (Below w.heap.size w wc))
     case first =>
      have H := HC81.out
      clear HC81
      replace H := Option.bind_eq_some_iff.mp H
      obtain ⟨t521, A910, H⟩ := H
      replace H : (if t521 = true then (laws_FnExactGuardAnswers.j2 kj52 t508 t507 (t520 != t479)) else (laws_FnExactGuardAnswers.j2 kj52 t508 t507 true)) = some r := H
      have A91 := Aside0.mk A910
      clear A910
      by_cases c92 : t521 = true
      ·subst c92
       have H1 : (laws_FnExactGuardAnswers.j2 kj52 t508 t507 (t520 != t479)) = some r := by rw [if_pos rfl] at H;exact H
       clear H
       have H := H1
       clear H1
       have H' := Aside0.mk H
       clear H
       obtain ⟨Ao93, co93, eo93⟩ := Kd.S_slice HO519.out
       subst eo93
       obtain ⟨Ao94, co94, eo94⟩ := Kd.N_slice HO_10.out
       subst eo94
       go_wp2_with (first | ((with_reducible refine gate_callee (f := 24) rfl ?_);refine goesL_ (some 112) rfl rfl Tryd.func24 (by kernel_rfl) rfl #[.slice Ao93 t517.length co93, .slice Ao94 t476.length co94] rfl mM ?_;(with_reducible refine (laws_eqIntSS.calls kj52 _ _ t517 _ _ t476 true _ ?side1 ?side2 ?side3 ?side4 A91.out).mono ?_);(case side1 => exact cP (Kd.S_reads' HO519.out).2.2);(case side2 => exact (Kd.S_reads' HO519.out).2.1);(case side3 => exact cP (Kd.N_reads' HO_10.out).2.2);(case side4 => exact (Kd.N_reads' HO_10.out).2.1);rintro e w' ⟨rfl, ⟨nd, rfl⟩⟩;refine ⟨_, rfl, ?_⟩))
       go_meet
       case rel => exact ⟨_, ((t520 != t479)), (by first | rfl | (simp;done) | (simp [*];done)), H', ⟨by have := HJ17.out;have := HJ52.out;first | omega | exact Nat.le_refl _⟩, ⟨by (try simp only [hl485001_52]);(with_reducible repeat (first | apply Kd.R_alloc | apply Kd.S_alloc | apply Kd.N_alloc | apply Kd.R_drewN | apply Kd.S_drewN | apply Kd.N_drewN | apply Kd.R_drew | apply Kd.S_drew | apply Kd.N_drew));exact Kd.S_mono HO_14.out (fun _ hk => by first | exact hk | exact hk.2 | exact hk.1 | exact hk.2.1 | exact ⟨hk.1, hk.2.1⟩ | trivial)⟩, ⟨by (try simp only [hl485001_52]);(with_reducible repeat (first | apply Kd.R_alloc | apply Kd.S_alloc | apply Kd.N_alloc | apply Kd.R_drewN | apply Kd.S_drewN | apply Kd.N_drewN | apply Kd.R_drew | apply Kd.S_drew | apply Kd.N_drew));exact Kd.R_mono HO_485001.out (fun _ hk => trivial)⟩, ⟨by (try simp only [hl485001_52]);exact kP BK467.out⟩, ⟨by (try simp only [hl485001_52]);exact kP BK484.out⟩, ⟨by exact bB⟩⟩
      replace c92 := Bool.eq_false_iff.mpr c92
      subst c92
      have H1 : (laws_FnExactGuardAnswers.j2 kj52 t508 t507 true) = some r := by rw [if_neg (show ¬ (false = true) by decide)] at H;exact H
      clear H
      have H := H1
      clear H1
      have H' := Aside0.mk H
      clear H
      obtain ⟨Ao95, co95, eo95⟩ := Kd.S_slice HO519.out
      subst eo95
      obtain ⟨Ao96, co96, eo96⟩ := Kd.N_slice HO_10.out
      subst eo96
      go_wp2_with (first | ((with_reducible refine gate_callee (f := 24) rfl ?_);refine goesL_ (some 112) rfl rfl Tryd.func24 (by kernel_rfl) rfl #[.slice Ao95 t517.length co95, .slice Ao96 t476.length co96] rfl mM ?_;(with_reducible refine (laws_eqIntSS.calls kj52 _ _ t517 _ _ t476 false _ ?side1 ?side2 ?side3 ?side4 A91.out).mono ?_);(case side1 => exact cP (Kd.S_reads' HO519.out).2.2);(case side2 => exact (Kd.S_reads' HO519.out).2.1);(case side3 => exact cP (Kd.N_reads' HO_10.out).2.2);(case side4 => exact (Kd.N_reads' HO_10.out).2.1);rintro e w' ⟨rfl, ⟨nd, rfl⟩⟩;refine ⟨_, rfl, ?_⟩))
      go_meet
      case rel => exact ⟨_, (true), (by first | rfl | (simp;done) | (simp [*];done)), H', ⟨by have := HJ17.out;have := HJ52.out;first | omega | exact Nat.le_refl _⟩, ⟨by (try simp only [hl485001_52]);(with_reducible repeat (first | apply Kd.R_alloc | apply Kd.S_alloc | apply Kd.N_alloc | apply Kd.R_drewN | apply Kd.S_drewN | apply Kd.N_drewN | apply Kd.R_drew | apply Kd.S_drew | apply Kd.N_drew));exact Kd.S_mono HO_14.out (fun _ hk => by first | exact hk | exact hk.2 | exact hk.1 | exact hk.2.1 | exact ⟨hk.1, hk.2.1⟩ | trivial)⟩, ⟨by (try simp only [hl485001_52]);(with_reducible repeat (first | apply Kd.R_alloc | apply Kd.S_alloc | apply Kd.N_alloc | apply Kd.R_drewN | apply Kd.S_drewN | apply Kd.N_drewN | apply Kd.R_drew | apply Kd.S_drew | apply Kd.N_drew));exact Kd.R_mono HO_485001.out (fun _ hk => trivial)⟩, ⟨by (try simp only [hl485001_52]);exact kP BK467.out⟩, ⟨by (try simp only [hl485001_52]);exact kP BK484.out⟩, ⟨by exact bB⟩⟩
     case rest =>
      clear HC81
      try clear c1
      try clear c2
      try clear p2
      try clear c3
      try clear c4
      try clear c5
      try clear c5b0
      try clear c5b1
      try clear c6
      try clear c7
      try clear c8
      try clear c8b0
      try clear c9
      try clear c11
      try clear c13
      try clear c15
      try clear c17
      try clear c19
      try clear c24
      try clear c27
      try clear c28
      try clear c31
      try clear c32
      try clear c33
      try clear c36
      try clear c37
      try clear c39
      try clear c44
      try clear c47
      try clear c50
      try clear c60
      try clear c64
      try clear c64b0
      try clear c66
      try clear c71
      try clear c74
      try clear c74b0
      try clear c77
      try clear c77b0
      try clear c77b1
      try clear c84
      try clear c92
      try clear hcz10_0
      try clear hcz10_1
      try clear hcz20_0
      try clear hcz20_1
      try clear hcz22_0
      try clear hcz22_1
      try clear hcz28_0
      try clear hcz28_1
      try clear hcz32_0
      try clear hcz32_1
      try clear hcz35_0
      try clear hcz35_1
      try clear hcz61_0
      try clear hcz61_1
      try clear hcz85_0
      try clear hcz85_1
      try clear hfz10_0
      try clear hfz10_1
      try clear hfz20_0
      try clear hfz20_1
      try clear hfz22_0
      try clear hfz22_1
      try clear hfz28_0
      try clear hfz28_1
      try clear hfz32_0
      try clear hfz32_1
      try clear hfz35_0
      try clear hfz35_1
      try clear hfz61_0
      try clear hfz61_1
      try clear hfz85_0
      try clear hfz85_1
      try clear p2
      obtain ⟨kq, x118_80, rfl, HA, HJ80, HO_14, HO_485001, BK467, BK484, HB⟩ := hcut
      have hl14_80 := (Kd.S_reads' HO_14.out).1
      rw [hl14_80] at HO_14
      (try simp only [hl14_80])
      (try simp only [hl14_80] at BK467)
      (try simp only [hl14_80] at BK484)
      (try simp only [hl14_80] at HO_485001)
      cases kq with
      | zero => exact absurd HA.out (by simp [laws_FnExactGuardAnswers.j2])
      | succ kj80 =>
       have H := HA.out
       clear HA
       simp only [laws_FnExactGuardAnswers.j2] at H
       by_cases c97 : x118_80 = true
       ·subst c97
        have H1 : (some false) = some r := by rw [if_pos rfl] at H;exact H
        clear H
        have H := H1
        clear H1
        obtain rfl := Option.some.inj H
        go_wp2
        go_ret
        exact ⟨by first | rfl | (simp [errW_none, errW_some] <;> rfl) | (simp [*, errW_none, errW_some] <;> rfl), by exact bB⟩
       replace c97 := Bool.eq_false_iff.mpr c97
       subst c97
       have H1 : ((laws_heldIntSS.f kj80 t508 1).bind fun t522 => (if t522 < 0 then (some false) else (if t522 = t507 then (some true) else (some false)))) = some r := by rw [if_neg (show ¬ (false = true) by decide)] at H;exact H
       clear H
       have H := H1
       clear H1
       replace H := Option.bind_eq_some_iff.mp H
       obtain ⟨t522, A980, H⟩ := H
       replace H : (if t522 < 0 then (some false) else (if t522 = t507 then (some true) else (some false))) = some r := H
       have A98 := Aside0.mk A980
       clear A980
       by_cases c99 : t522 < 0
       ·rw [if_pos c99] at H
        have c99b0 : decide (t522 < 0) = true := decide_eq_true c99
        clear c99
        obtain rfl := Option.some.inj H
        go_wp2_with (first | ((with_reducible refine gate_callee (f := 33) rfl ?_);refine goesL_ (some 121) rfl rfl Tryd.func33 (by kernel_rfl) rfl #[.slice Ao82 t508.length co82, .int .i64 1] rfl mM ?_;(with_reducible refine (laws_heldIntSS.calls kj80 _ _ t508 1 t522 _ ?side1 ?side2 A98.out).mono ?_);(case side1 => exact cP (Kd.S_reads' HO_14.out).2.2);(case side2 => exact (Kd.S_reads' HO_14.out).2.1);rintro e w' ⟨rfl, ⟨nd, rfl⟩⟩;refine ⟨_, rfl, ?_⟩))
        go_ret
        exact ⟨by first | rfl | (simp [errW_none, errW_some] <;> rfl) | (simp [*, errW_none, errW_some] <;> rfl), by exact bB⟩
       rw [if_neg c99] at H
       have c99b0 : decide (t522 < 0) = false := decide_eq_false c99
       clear c99
       by_cases c100 : t522 = t507
       rotate_left
       ·rw [if_neg c100] at H
        have c100b0 : (t522 == t507) = false := beq_eq_false_iff_ne.mpr c100
        have c100b1 : (t522 != t507) = true := bne_iff_ne.mpr c100
        obtain rfl := Option.some.inj H
        go_wp2_with (first | ((with_reducible refine gate_callee (f := 33) rfl ?_);refine goesL_ (some 121) rfl rfl Tryd.func33 (by kernel_rfl) rfl #[.slice Ao82 t508.length co82, .int .i64 1] rfl mM ?_;(with_reducible refine (laws_heldIntSS.calls kj80 _ _ t508 1 t522 _ ?side1 ?side2 A98.out).mono ?_);(case side1 => exact cP (Kd.S_reads' HO_14.out).2.2);(case side2 => exact (Kd.S_reads' HO_14.out).2.1);rintro e w' ⟨rfl, ⟨nd, rfl⟩⟩;refine ⟨_, rfl, ?_⟩))
        go_ret
        exact ⟨by first | rfl | (simp [errW_none, errW_some] <;> rfl) | (simp [*, errW_none, errW_some] <;> rfl), by exact bB⟩
       rw [if_pos c100] at H
       have c100b0 : (t522 == t507) = true := beq_iff_eq.mpr c100
       have c100b1 : (t522 != t507) = false := bne_eq_false_iff_eq.mpr c100
       clear c100
       obtain rfl := Option.some.inj H
       go_wp2_with (first | ((with_reducible refine gate_callee (f := 33) rfl ?_);refine goesL_ (some 121) rfl rfl Tryd.func33 (by kernel_rfl) rfl #[.slice Ao82 t508.length co82, .int .i64 1] rfl mM ?_;(with_reducible refine (laws_heldIntSS.calls kj80 _ _ t508 1 t522 _ ?side1 ?side2 A98.out).mono ?_);(case side1 => exact cP (Kd.S_reads' HO_14.out).2.2);(case side2 => exact (Kd.S_reads' HO_14.out).2.1);rintro e w' ⟨rfl, ⟨nd, rfl⟩⟩;refine ⟨_, rfl, ?_⟩))
       go_ret
       exact ⟨by first | rfl | (simp [errW_none, errW_some] <;> rfl) | (simp [*, errW_none, errW_some] <;> rfl), by exact bB⟩


end Go.Proofs.YthbjajppdomhhaaDoor.QGuardAnswers
