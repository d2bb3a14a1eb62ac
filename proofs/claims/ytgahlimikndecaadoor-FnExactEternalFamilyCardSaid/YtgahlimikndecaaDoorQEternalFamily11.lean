import Derived.Test.YtgahlimikndecaaDoorQEternalFamily0
import Derived.Test.YtgahlimikndecaaDoorQEternalFamily5
import Derived.Test.YtgahlimikndecaaDoorQEternalFamily6
import Derived.Test.YtgahlimikndecaaDoorQEternalFamily10
namespace Go.Proofs.YtgahlimikndecaaDoor.QEternalFamily
open Go.RowKit Go.Proofs.YtgahlimikndecaaDoorW.PrintWords Go.Proofs.YtgahlimikndecaaDoorW.PrintLast Go.Proofs.YtgahlimikndecaaDoorW.PrintMore
attribute [local go_sem] max2_int min2_int max_two min_two max_three min_three max_four min_four   -- for this text's walks alone
set_option linter.unusedVariables false
set_option linter.unusedSimpArgs false
set_option maxRecDepth 100000
set_option maxHeartbeats 8000000
/-! ### laws_FnExactEternalFamily: function 3 -/
def Mine9 (P : Nat → Prop) (W : World) (base : Nat) (E : List Nat) (k : Nat) : Prop := P k ∧ base ≤ k ∧ k < W.heap.size ∧ ∃ q, q ∈ E ∧ ∃ cells, W.heap[k]? = some (.cells cells q (0, 0))
theorem mine9 {α : Type} {d : Kd α} {e base : Nat} {ok : Nat → Prop} {w : World} {v : Value} {xs : List α} (h : Kd.S d e w base ok v xs) : Kd.S d e w base (Mine9 ok w base (e :: d.E)) v xs := Kd.S_bound h
theorem mine9_block {P : Nat → Prop} {W : World} {base g t : Nat} {E : List Nat} {cells : Array Value} (h : Mine9 P W base E g) (hb : W.heap[g]? = some (.cells cells t (0, 0))) (ht : ¬ t ∈ E) : False := by
 obtain ⟨_, _, _, q, hq, c, hc⟩ := h
 rw [hc] at hb
 simp only [Option.some.injEq, Obj.cells.injEq] at hb
 exact ht (hb.2.1 ▸ hq)
theorem mine9_R {α : Type} {d : Kd α} {e b base : Nat} {ok P : Nat → Prop} {W : World} {E : List Nat} {v : Value} {xs : List α} (h : Kd.R d e W b ok v xs) (hE : ∀ q ∈ e :: d.E, ¬ q ∈ E) : Kd.R d e W b (fun k => ¬ Mine9 P W base E k) v xs :=
 Kd.R_mono (Kd.R_bound h) (fun k hk hM => by obtain ⟨_, _, _, q, hq, c, hc⟩ := hk;exact mine9_block hM hc (hE q hq))
theorem mine9_old {W W1 : World} (hb : Below W.heap.size W W1) : ∃ P9_ : Nat → Prop, ∀ k, P9_ k ↔ W.heap.size ≤ k := ⟨_, fun _ => Iff.rfl⟩
mutual
def laws_FnExactEternalFamily.j0 : Nat → Int → Bool → List (List Int) → Bool → List (List Int) → Bool → Bool → Int → List (S78) → Int → List (S78) → Option (Bool)
 | 0, _, _, _, _, _, _, _, _, _, _, _ => none
 | k + 1, x1, x2, x8, x9, x11, x12, x48, x469000, x469001, x483000, x483001 => if x48 = true then (some false) else ((laws_toGraph.f k x469000 x469001).bind fun bt488 => ((laws_eqGraph.f k x483000 x483001 bt488.1 bt488.2).bind fun t492 => (if t492 = true then ((laws_markGraph.f x483000 x483001 1).bind fun bt493 => (if bt493.1 < 0 then (laws_FnExactEternalFamily.j1 k x1 x2 x8 x9 x11 true x469000 x469001) else ((laws_eqIntSS.f k x11 x8).bind fun t495 => (if t495 = true then (laws_FnExactEternalFamily.j1 k x1 x2 x8 x9 x11 (x12 != x9) x469000 x469001) else (laws_FnExactEternalFamily.j1 k x1 x2 x8 x9 x11 true x469000 x469001))))) else (some false))))
def laws_FnExactEternalFamily.j1 : Nat → Int → Bool → List (List Int) → Bool → List (List Int) → Bool → Int → List (S78) → Option (Bool)
 | 0, _, _, _, _, _, _, _, _ => none
 | k + 1, x1, x2, x8, x9, x11, x69, x469000, x469001 => if x69 = true then (some false) else ((laws_markIntSS.f k x11 1).bind fun bt496 => ((laws_heldIntSS.f k bt496.2 1).bind fun t498 => (if t498 < 0 then (some false) else (if t498 = bt496.1 then ((laws_toGraph.f k x469000 x469001).bind fun bt499 => ((impl_EternalFamily.f k bt499.1 bt499.2 x1 x2).bind fun bt503 => ((laws_eqIntSS.f k bt503.1 x8).bind fun t507 => (if t507 = true then (laws_FnExactEternalFamily.j2 k bt496.2 bt496.1 (bt503.2 != x9)) else (laws_FnExactEternalFamily.j2 k bt496.2 bt496.1 true))))) else (some false)))))
def laws_FnExactEternalFamily.j2 : Nat → List (List Int) → Int → Bool → Option (Bool)
 | 0, _, _, _ => none
 | k + 1, x11, x14, x97 => if x97 = true then (some false) else ((laws_heldIntSS.f k x11 1).bind fun t508 => (if t508 < 0 then (some false) else (if t508 = x14 then (some true) else (some false))))
end
def laws_FnExactEternalFamily.f (k : Nat) (a0_0 : Int) (l0_1 : List (S78)) (a1 : Int) (a2 : Bool) : Option (Bool) := (laws_szGraph.f a0_0 l0_1 1048576).bind fun t469 => (if t469 < 0 then (some true) else ((laws_toGraph.f k a0_0 l0_1).bind fun bt470 => ((spec_EternalFamily.f k bt470.1 bt470.2 a1 a2).bind fun bt474 => ((laws_toGraph.f k a0_0 l0_1).bind fun bt478 => ((impl_EternalFamily.f k bt478.1 bt478.2 a1 a2).bind fun bt483 => ((laws_eqIntSS.f k bt483.1 bt474.1).bind fun t487 => (if t487 = true then (laws_FnExactEternalFamily.j0 k a1 a2 bt474.1 bt474.2 bt483.1 bt483.2 (bt483.2 != bt474.2) a0_0 l0_1 bt478.1 bt478.2) else (laws_FnExactEternalFamily.j0 k a1 a2 bt474.1 bt474.2 bt483.1 bt483.2 true a0_0 l0_1 bt478.1 bt478.2))))))))
theorem laws_FnExactEternalFamily.mono_l : ∀ k, (∀ y0 y1 y2 y3 y4 y5 y6 y7 y8 y9 y10, LeO (laws_FnExactEternalFamily.j0 k y0 y1 y2 y3 y4 y5 y6 y7 y8 y9 y10) (laws_FnExactEternalFamily.j0 (k + 1) y0 y1 y2 y3 y4 y5 y6 y7 y8 y9 y10)) ∧ (∀ y0 y1 y2 y3 y4 y5 y6 y7, LeO (laws_FnExactEternalFamily.j1 k y0 y1 y2 y3 y4 y5 y6 y7) (laws_FnExactEternalFamily.j1 (k + 1) y0 y1 y2 y3 y4 y5 y6 y7)) ∧ (∀ y0 y1 y2, LeO (laws_FnExactEternalFamily.j2 k y0 y1 y2) (laws_FnExactEternalFamily.j2 (k + 1) y0 y1 y2))
 | 0 => ⟨fun _ _ _ _ _ _ _ _ _ _ _ r h => by simp [laws_FnExactEternalFamily.j0] at h, fun _ _ _ _ _ _ _ _ r h => by simp [laws_FnExactEternalFamily.j1] at h, fun _ _ _ r h => by simp [laws_FnExactEternalFamily.j2] at h⟩
 | k + 1 => by
  obtain ⟨ih0, ih1, ih2⟩ := laws_FnExactEternalFamily.mono_l k
  refine ⟨?_, ?_, ?_⟩
  ·intro y0 y1 y2 y3 y4 y5 y6 y7 y8 y9 y10
   unfold laws_FnExactEternalFamily.j0
   have q0 := impl_EternalFamily.mono
   have q1 := laws_eqGraph.mono
   have q2 := laws_eqIntSS.mono
   have q3 := laws_heldIntSS.mono
   have q4 := laws_markIntSS.mono
   have q5 := laws_toGraph.mono
   have q6 := spec_EternalFamily.mono
   exact lM
  ·intro y0 y1 y2 y3 y4 y5 y6 y7
   unfold laws_FnExactEternalFamily.j1
   have q0 := impl_EternalFamily.mono
   have q1 := laws_eqGraph.mono
   have q2 := laws_eqIntSS.mono
   have q3 := laws_heldIntSS.mono
   have q4 := laws_markIntSS.mono
   have q5 := laws_toGraph.mono
   have q6 := spec_EternalFamily.mono
   exact lM
  ·intro y0 y1 y2
   unfold laws_FnExactEternalFamily.j2
   have q0 := impl_EternalFamily.mono
   have q1 := laws_eqGraph.mono
   have q2 := laws_eqIntSS.mono
   have q3 := laws_heldIntSS.mono
   have q4 := laws_markIntSS.mono
   have q5 := laws_toGraph.mono
   have q6 := spec_EternalFamily.mono
   exact lM
theorem laws_FnExactEternalFamily.mono : ∀ a0 a1 a2 a3 k, LeO (laws_FnExactEternalFamily.f k a0 a1 a2 a3) (laws_FnExactEternalFamily.f (k + 1) a0 a1 a2 a3) := by
 intro a0 a1 a2 a3 k
 obtain ⟨ih0, ih1, ih2⟩ := laws_FnExactEternalFamily.mono_l k
 unfold laws_FnExactEternalFamily.f
 have q0 := impl_EternalFamily.mono
 have q1 := laws_eqGraph.mono
 have q2 := laws_eqIntSS.mono
 have q3 := laws_heldIntSS.mono
 have q4 := laws_markIntSS.mono
 have q5 := laws_toGraph.mono
 have q6 := spec_EternalFamily.mono
 exact lM
theorem laws_FnExactEternalFamily.calls (k : Nat) (a0_0 : Int) (A0_1 : Option Addr) (c0_1 : Nat) (l0_1 : List (S78)) (a1 : Int) (a2 : Bool) (r : Bool) (w : World) (hT : TabG w) (hr0_1 : Kd.C k78 w A0_1 l0_1.length l0_1) (hc0_1 : l0_1.length ≤ c0_1) (h : laws_FnExactEternalFamily.f k a0_0 l0_1 a1 a2 = some r) :
  Calls Tryd.prog 3 #[.agg #[.int .i64 a0_0, .slice A0_1 l0_1.length c0_1], .int .i64 a1, .bool a2] w fun e w' => e = .returned (.bool r) ∧ Below w.heap.size w w' := by
 have hu24 := Tryd.underlying24
 have hu29 := Tryd.underlying29
 have HR0_1 := Aside0.mk hr0_1
 have HC0_1 := Aside0.mk hc0_1
 clear hr0_1 hc0_1
 have HB := aM (Below.refl w.heap.size w)
 have HT := Aside0.mk hT
 clear hT
 have H : ((laws_szGraph.f a0_0 l0_1 1048576).bind fun t469 => (if t469 < 0 then (some true) else ((laws_toGraph.f k a0_0 l0_1).bind fun bt470 => ((spec_EternalFamily.f k bt470.1 bt470.2 a1 a2).bind fun bt474 => ((laws_toGraph.f k a0_0 l0_1).bind fun bt478 => ((impl_EternalFamily.f k bt478.1 bt478.2 a1 a2).bind fun bt483 => ((laws_eqIntSS.f k bt483.1 bt474.1).bind fun t487 => (if t487 = true then (laws_FnExactEternalFamily.j0 k a1 a2 bt474.1 bt474.2 bt483.1 bt483.2 (bt483.2 != bt474.2) a0_0 l0_1 bt478.1 bt478.2) else (laws_FnExactEternalFamily.j0 k a1 a2 bt474.1 bt474.2 bt483.1 bt483.2 true a0_0 l0_1 bt478.1 bt478.2))))))))) = some r := h
 clear h
 replace H := Option.bind_eq_some_iff.mp H
 obtain ⟨t469, A40, H⟩ := H
 try dsimp only at H
 have A4 := Aside0.mk A40
 clear A40
 by_cases c5 : t469 < 0
 ·rw [if_pos c5] at H
  have c5b0 : decide (t469 < 0) = true := decide_eq_true c5
  clear c5
  obtain rfl := Option.some.inj H
  go_enter Tryd.func3, Tryd.ntmps3
  go_wp2_with (first | ((with_reducible refine gate_dst (N := 3) rfl ?_);refine box_event ?hg (N := 3) ?hd (cs := #[.int .i64 a0_0, .slice A0_1 l0_1.length c0_1]) (t := 24) ?hr ?_;(case hd => rfl);(case hg => rfl);(case hr => exact gS);intro gb468 hg w6 hbox hb;have n0_ := aM (below_step (by exact bB) hb);have n1_ := aM (hbox);have n2_ := aM (sW hg : w.heap.size ≤ gb468);have n3_ := aM (sW hg : w.heap.size ≤ gb468);clear HB;have HB := n0_;have BK468 := n1_;have GW468 := n2_;have GE468 := n3_;clear n0_ n1_ n2_ n3_;clear hb hbox hg;have hcz7_0 := bC0 BK468.out;have hcz7_1 := bC1 BK468.out;have hfz7_0 := blk_frozen BK468.out 0;have hfz7_1 := blk_frozen BK468.out 1) | ((with_reducible refine gate_callee (f := 7) rfl ?_);refine goesL_ (some 20) rfl rfl Tryd.func7 (by kernel_rfl) rfl #[.agg #[.int .i64 a0_0, .slice A0_1 l0_1.length c0_1], .int .i64 1048576] rfl mM ?_;(with_reducible refine (laws_szGraph.calls a0_0 _ _ l0_1 1048576 t469 _ ?side1 ?side2 A4.out).mono ?_);(case side1 => exact cP (Kd.C_below HR0_1.out HB.out));(case side2 => exact HC0_1.out);rintro e w8 ⟨rfl, hb⟩;refine ⟨_, rfl, ?_⟩;have n0_ := aM (kB hb BK468.out);have n1_ := aM (below_step (by exact bB) hb);clear BK468;clear HB;have BK468 := n0_;have HB := n1_;clear n0_ n1_;(try clear hb)))
  go_ret
  exact ⟨eW, by exact bB⟩
 rw [if_neg c5] at H
 have c5b0 : decide (t469 < 0) = false := decide_eq_false c5
 clear c5
 replace H := Option.bind_eq_some_iff.mp H
 obtain ⟨⟨t470, t471⟩, A90, H⟩ := H
 try dsimp only at H
 have A9 := Aside0.mk A90
 clear A90
 replace H := Option.bind_eq_some_iff.mp H
 obtain ⟨⟨t474, t477⟩, A100, H⟩ := H
 try dsimp only at H
 have A10 := Aside0.mk A100
 clear A100
 replace H := Option.bind_eq_some_iff.mp H
 obtain ⟨⟨t478, t479⟩, A110, H⟩ := H
 try dsimp only at H
 have A11 := Aside0.mk A110
 clear A110
 replace H := Option.bind_eq_some_iff.mp H
 obtain ⟨⟨t483, t486⟩, A120, H⟩ := H
 try dsimp only at H
 have A12 := Aside0.mk A120
 clear A120
 have HC13 := Aside0.mk H
 clear H
 go_enter Tryd.func3, Tryd.ntmps3
 go_upto_region 8 with (first | ((with_reducible refine gate_dst (N := 3) rfl ?_);refine box_event ?hg (N := 3) ?hd (cs := #[.int .i64 a0_0, .slice A0_1 l0_1.length c0_1]) (t := 24) ?hr ?_;(case hd => rfl);(case hg => rfl);(case hr => exact gS);intro gb468 hg w14 hbox hb;have n0_ := aM (below_step (by exact bB) hb);have n1_ := aM (hbox);have n2_ := aM (sW hg : w.heap.size ≤ gb468);have n3_ := aM (sW hg : w.heap.size ≤ gb468);clear HB;have HB := n0_;have BK468 := n1_;have GW468 := n2_;have GE468 := n3_;clear n0_ n1_ n2_ n3_;clear hb hbox hg;have hcz15_0 := bC0 BK468.out;have hcz15_1 := bC1 BK468.out;have hfz15_0 := blk_frozen BK468.out 0;have hfz15_1 := blk_frozen BK468.out 1) | ((with_reducible refine gate_callee (f := 7) rfl ?_);refine goesL_ (some 20) rfl rfl Tryd.func7 (by kernel_rfl) rfl #[.agg #[.int .i64 a0_0, .slice A0_1 l0_1.length c0_1], .int .i64 1048576] rfl mM ?_;(with_reducible refine (laws_szGraph.calls a0_0 _ _ l0_1 1048576 t469 _ ?side1 ?side2 A4.out).mono ?_);(case side1 => exact cP (Kd.C_below HR0_1.out HB.out));(case side2 => exact HC0_1.out);rintro e w16 ⟨rfl, hb⟩;refine ⟨_, rfl, ?_⟩;have n0_ := aM (kB hb BK468.out);have n1_ := aM (below_step (by exact bB) hb);clear BK468;clear HB;have BK468 := n0_;have HB := n1_;clear n0_ n1_;(try clear hb);have hcz17_0 := bC0 BK468.out;have hcz17_1 := bC1 BK468.out;have hfz17_0 := blk_frozen BK468.out 0;have hfz17_1 := blk_frozen BK468.out 1) | ((with_reducible refine gate_callee (f := 9) rfl ?_);refine goesL_ (some 25) rfl rfl Tryd.func9 (by kernel_rfl) rfl #[.agg #[.int .i64 a0_0, .slice A0_1 l0_1.length c0_1]] rfl mM ?_;(with_reducible refine (laws_toGraph.calls k a0_0 _ _ l0_1 t470 t471 _ ?side1 ?side2 A9.out).mono ?_);(case side1 => exact cP (Kd.C_below HR0_1.out HB.out));(case side2 => exact HC0_1.out);rintro e w18 ⟨v472, rfl, ho0, hb⟩;refine ⟨_, rfl, ?_⟩;have n0_ := aM (Kd.R_lower ho0 (below_size (by exact bB)));have n1_ := aM (kB hb BK468.out);have n2_ := aM (below_step (by exact bB) hb);clear BK468;clear HB;have HO473 := n0_;have BK468 := n1_;have HB := n2_;clear n0_ n1_ n2_;(try clear hb);(try clear ho0);obtain ⟨Ao19, co19, eo19⟩ := Kd.R_slice HO473.out;subst eo19) | ((with_reducible refine gate_callee (f := 8) rfl ?_);refine goesL_ (some 28) rfl rfl Tryd.func8 (by kernel_rfl) rfl #[.agg #[.int .i64 t470, .slice Ao19 t471.length co19], .int .i64 a1, .bool a2] rfl mM ?_;(with_reducible refine (spec_EternalFamily.calls k t470 _ _ t471 a1 a2 t474 t477 _ ?side1 ?side2 A10.out).mono ?_);(case side1 => exact cP (Kd.R_reads' HO473.out).2.2);(case side2 => exact (Kd.R_reads' HO473.out).2.1);rintro e w20 ⟨v475, rfl, ho0, hb⟩;refine ⟨_, rfl, ?_⟩;have n0_ := aM (Kd.R_below (by exact rP HO473.out) hb);have n1_ := aM (Kd.N_lower ho0 (below_size (by exact bB)));have n2_ := aM (kB hb BK468.out);have n3_ := aM (below_step (by exact bB) hb);clear HO473;clear BK468;clear HB;have HO473 := n0_;have HO476 := n1_;have BK468 := n2_;have HB := n3_;clear n0_ n1_ n2_ n3_;(try clear hb);(try clear ho0);have hcz21_0 := bC0 BK468.out;have hcz21_1 := bC1 BK468.out;have hfz21_0 := blk_frozen BK468.out 0;have hfz21_1 := blk_frozen BK468.out 1) | ((with_reducible refine gate_callee (f := 9) rfl ?_);refine goesL_ (some 32) rfl rfl Tryd.func9 (by kernel_rfl) rfl #[.agg #[.int .i64 a0_0, .slice A0_1 l0_1.length c0_1]] rfl mM ?_;(with_reducible refine (laws_toGraph.calls k a0_0 _ _ l0_1 t478 t479 _ ?side1 ?side2 A11.out).mono ?_);(case side1 => exact cP (Kd.C_below HR0_1.out HB.out));(case side2 => exact HC0_1.out);rintro e w22 ⟨v480, rfl, ho0, hb⟩;refine ⟨_, rfl, ?_⟩;have n0_ := aM (Kd.R_elder' (by exact rP HO473.out) (Kd.R_base ho0) hb);have n1_ := aM (Kd.N_elder' (by exact uP HO476.out) (Kd.R_base ho0) hb);have n2_ := aM (Kd.R_lower (Kd.R_new' ho0 (Kd.R_lt (by exact rP HO473.out))) (below_size (by exact bB)));have n3_ := aM (kB hb BK468.out);have n4_ := aM (below_step (by exact bB) hb);clear HO473;clear HO476;clear BK468;clear HB;have HO473 := n0_;have HO476 := n1_;have HO481 := n2_;have BK468 := n3_;have HB := n4_;clear n0_ n1_ n2_ n3_ n4_;(try clear hb);(try clear ho0)) | ((with_reducible refine gate_dst (N := 10) rfl ?_);refine box_event ?hg (N := 10) ?hd (cs := #[.int .i64 0, .slice none 0 0]) (t := 29) ?hr ?_;(case hd => rfl);(case hg => rfl);(case hr => exact gS);intro gb482 hg w23 hbox hb;have n0_ := aM (Kd.R_below (by exact rP HO473.out) hb);have n1_ := aM (Kd.N_below (Kd.N_elderB (by exact uP HO476.out) gb482 (by rw [hg];exact Nat.le_refl _)) hb);have n2_ := aM (Kd.R_below (by exact rP HO481.out) hb);have n3_ := aM (kB hb BK468.out);have n4_ := aM (below_step (by exact bB) hb);have n5_ := aM (hbox);have n6_ := aM (sW hg : w.heap.size ≤ gb482);have n7_ := aM (sW hg : w.heap.size ≤ gb482);have n8_ := aM (nL hg (kP BK468.out));have n9_ := aM (nG hg (kP BK468.out));clear HO473;clear HO476;clear HO481;clear BK468;clear HB;have HO473 := n0_;have HO476 := n1_;have HO481 := n2_;have BK468 := n3_;have HB := n4_;have BK482 := n5_;have GW482 := n6_;have GE482 := n7_;have NB468_482 := n8_;have NB482_468 := n9_;clear n0_ n1_ n2_ n3_ n4_ n5_ n6_ n7_ n8_ n9_;clear hb hbox hg;have hnb24 := NB482_468.out;have hnc24 := NB468_482.out;have hcz25_0 := bC0 BK482.out;have hcz25_1 := bC1 BK482.out;have hfz25_0 := blk_frozen BK482.out 0;have hfz25_1 := blk_frozen BK482.out 1;obtain ⟨Ao26, co26, eo26⟩ := Kd.R_slice HO481.out;subst eo26) | ((with_reducible refine gate_callee (f := 10) rfl ?_);refine goesL_ (some 37) rfl rfl Tryd.func10 (by kernel_rfl) rfl #[.agg #[.int .i64 t478, .slice Ao26 t479.length co26], .int .i64 a1, .bool a2] rfl mM ?_;(with_reducible refine (impl_EternalFamily.calls k t478 _ _ t479 a1 a2 t483 t486 _ ?sideT ?side1 ?side2 A12.out).mono ?_);(case sideT => exact tabG_below HT.out (by exact bB));(case side1 => refine (Kd.R_reads' (e := 78) (base := w.heap.size) (ok := fun k_ => (True ∧ some k_ ≠ (.slice Ao19 t471.length co19 : Value).ownBlock)) (n := t479.length) (c := co26) ?_).2.2;exact (by (with_reducible repeat (first | apply Kd.R_alloc | apply Kd.S_alloc | apply Kd.N_alloc | apply Kd.R_drewN | apply Kd.S_drewN | apply Kd.N_drewN | apply Kd.R_drew | apply Kd.S_drew | apply Kd.N_drew));exact (Kd.R_mono (Kd.R_far (p := ⟨gb482, 1, none⟩) (Kd.R_far (p := ⟨gb482, 0, none⟩) (Kd.R_types HO481.out BK482.out (by decide)) (fun _ hk => hk.2) (.int .i64 t478)) (fun _ hk => hk.2) (.slice Ao26 t479.length co26)) (fun _ h_ => h_.1))));(case side2 => exact (Kd.R_reads' HO481.out).2.1);rintro e w27 ⟨v484, rfl, ho0, hb⟩;refine ⟨_, rfl, ?_⟩;obtain ⟨P9_, hp9_⟩ := mine9_old hb;have n0_ := aM (Kd.R_below (by (with_reducible repeat (first | apply Kd.R_alloc | apply Kd.S_alloc | apply Kd.N_alloc | apply Kd.R_drewN | apply Kd.S_drewN | apply Kd.N_drewN | apply Kd.R_drew | apply Kd.S_drew | apply Kd.N_drew));exact (Kd.R_mono (Kd.R_far (p := ⟨gb482, 1, none⟩) (Kd.R_far (p := ⟨gb482, 0, none⟩) (Kd.R_types HO473.out BK482.out (by decide)) (fun _ hk => hk.2) (.int .i64 t478)) (fun _ hk => hk.2) (.slice Ao26 t479.length co26)) (fun _ h_ => h_.1))) hb);have n1_ := aM (Kd.N_mono (ok' := fun k_ => ¬ P9_ k_ ∧ some k_ ≠ (.slice Ao26 t479.length co26 : Value).ownBlock) (Kd.N_old (ok := fun k_ => True ∧ some k_ ≠ (.slice Ao26 t479.length co26 : Value).ownBlock) (by (with_reducible repeat (first | apply Kd.R_alloc | apply Kd.S_alloc | apply Kd.N_alloc | apply Kd.R_drewN | apply Kd.S_drewN | apply Kd.N_drewN | apply Kd.R_drew | apply Kd.S_drew | apply Kd.N_drew));exact (Kd.N_mono (ok' := fun k_ => True ∧ some k_ ≠ (.slice Ao26 t479.length co26 : Value).ownBlock) (Kd.N_far (p := ⟨gb482, 1, none⟩) (Kd.N_far (p := ⟨gb482, 0, none⟩) HO476.out (fun _ hk => hk.2) (.int .i64 t478)) (fun _ hk => hk.2) (.slice Ao26 t479.length co26)) (fun _ h_ => ⟨trivial, h_.1.2⟩))) hb) (fun k_ hk_ => ⟨fun h_ => absurd ((hp9_ k_).1 h_) (Nat.not_le.mpr hk_.2), hk_.1.2⟩));have n2_ := aM (Kd.R_below (by (with_reducible repeat (first | apply Kd.R_alloc | apply Kd.S_alloc | apply Kd.N_alloc | apply Kd.R_drewN | apply Kd.S_drewN | apply Kd.N_drewN | apply Kd.R_drew | apply Kd.S_drew | apply Kd.N_drew));exact (Kd.R_mono (Kd.R_far (p := ⟨gb482, 1, none⟩) (Kd.R_far (p := ⟨gb482, 0, none⟩) (Kd.R_types HO481.out BK482.out (by decide)) (fun _ hk => hk.2) (.int .i64 t478)) (fun _ hk => hk.2) (.slice Ao26 t479.length co26)) (fun _ h_ => h_.1))) hb);have n3_ := aM (Kd.S_lower (Kd.S_mono (ok' := fun k_ => P9_ k_) (Kd.S_bound ho0) (fun k_ hk_ => (hp9_ k_).2 hk_.2.1)) (below_size (by exact bB)));have n4_ := aM (blk_below (g := gb468) (o := .cells #[.int .i64 a0_0, .slice A0_1 l0_1.length c0_1] 24 (0, 0)) (by refine kP ?_;refine blk_far ?_ NB468_482.out _;refine kP ?_;refine blk_far ?_ NB468_482.out _;exact kP BK468.out) hb);have n5_ := aM (blk_below (g := gb482) (o := .cells #[.int .i64 t478, .slice Ao26 t479.length co26] 29 (0, 0)) (by refine kP ?_;refine blk_put (cs := #[.int .i64 t478, .slice none 0 0]) ?_ 1 _ rfl;refine kP ?_;refine blk_put (cs := #[.int .i64 0, .slice none 0 0]) ?_ 0 _ rfl;exact kP BK482.out) hb);have n6_ := aM (below_step (by exact bB) hb);clear HO473;clear HO476;clear HO481;clear BK468;clear BK482;clear HB;have HO473 := n0_;have HO476 := n1_;have HO481 := n2_;have HO485 := n3_;have BK468 := n4_;have BK482 := n5_;have HB := n6_;clear n0_ n1_ n2_ n3_ n4_ n5_ n6_;(try clear hb);(try clear ho0)))
 (try simp only [Act.put, List.setIfInBounds_toArray, List.set_cons_zero, List.set_cons_succ])
 go_cut [48] (fun v48 wc => ∃ (P9_ : Nat → Prop) (kq : Nat) (x48_12 : Bool), v48 = .bool x48_12 ∧ Aside0 (laws_FnExactEternalFamily.j0 kq a1 a2 t474 t477 t483 t486 x48_12 a0_0 l0_1 t478 t479 = some r) ∧ Aside0 (kq ≤ k) ∧ Aside0 (Kd.N (Kd.slice 3 (Kd.int .i64)) 36 wc w.heap.size (fun k_ => ¬ P9_ k_ ∧ some k_ ≠ (.slice Ao26 t479.length co26 : Value).ownBlock) v475 t474) ∧ Aside0 (Kd.S (Kd.slice 3 (Kd.int .i64)) 36 wc w.heap.size (fun k_ => P9_ k_) v484 t483) ∧ Aside0 (Kd.R k78 78 wc w.heap.size (fun _ => True) (.slice Ao26 t479.length co26) t479) ∧ Aside0 (wc.heap[gb468]? = some (.cells #[.int .i64 a0_0, (.slice A0_1 l0_1.length c0_1)] 24 (0, 0))) ∧ Aside0 (wc.heap[gb482]? = some (.cells #[.int .i64 t478, (.slice Ao26 t479.length co26)] 29 (0, 0))) ∧ Aside0 (Below w.heap.size w wc))
 case first =>
  have H := HC13.out
  clear HC13
  replace H := Option.bind_eq_some_iff.mp H
  obtain ⟨t487, A280, H⟩ := H
  try dsimp only at H
  have A28 := Aside0.mk A280
  clear A280
  by_cases c29 : t487 = true
  ·subst c29
   rw [if_pos rfl] at H
   have H' := Aside0.mk H
   clear H
   obtain ⟨Ao30, co30, eo30⟩ := Kd.S_slice HO485.out
   subst eo30
   obtain ⟨Ao31, co31, eo31⟩ := Kd.N_slice HO476.out
   subst eo31
   go_wp2_with (first | ((with_reducible refine gate_callee (f := 11) rfl ?_);refine goesL_ (some 42) rfl rfl Tryd.func11 (by kernel_rfl) rfl #[.slice Ao30 t483.length co30, .slice Ao31 t474.length co31] rfl mM ?_;(with_reducible refine (laws_eqIntSS.calls k _ _ t483 _ _ t474 true _ ?side1 ?side2 ?side3 ?side4 A28.out).mono ?_);(case side1 => exact cP (Kd.S_reads' HO485.out).2.2);(case side2 => exact (Kd.S_reads' HO485.out).2.1);(case side3 => exact cP (Kd.N_reads' HO476.out).2.2);(case side4 => exact (Kd.N_reads' HO476.out).2.1);rintro e w' ⟨rfl, ⟨nd, rfl⟩⟩;refine ⟨_, rfl, ?_⟩))
   go_meet
   case rel => exact ⟨P9_, _, ((t486 != t477)), eF, H', ⟨by first | omega | exact Nat.le_refl _⟩, ⟨by (with_reducible repeat (first | apply Kd.R_alloc | apply Kd.S_alloc | apply Kd.N_alloc | apply Kd.R_drewN | apply Kd.S_drewN | apply Kd.N_drewN | apply Kd.R_drew | apply Kd.S_drew | apply Kd.N_drew));exact Kd.N_mono HO476.out (fun _ hk => by first | exact hk | exact hk.2 | exact hk.1 | exact hk.2.1 | exact ⟨hk.1, hk.2.1⟩ | trivial)⟩, ⟨by (with_reducible repeat (first | apply Kd.R_alloc | apply Kd.S_alloc | apply Kd.N_alloc | apply Kd.R_drewN | apply Kd.S_drewN | apply Kd.N_drewN | apply Kd.R_drew | apply Kd.S_drew | apply Kd.N_drew));exact Kd.S_mono HO485.out (fun _ hk => by first | exact hk | exact hk.2 | exact hk.1 | exact hk.2.1 | exact ⟨hk.1, hk.2.1⟩ | trivial)⟩, ⟨by (with_reducible repeat (first | apply Kd.R_alloc | apply Kd.S_alloc | apply Kd.N_alloc | apply Kd.R_drewN | apply Kd.S_drewN | apply Kd.N_drewN | apply Kd.R_drew | apply Kd.S_drew | apply Kd.N_drew));exact Kd.R_mono HO481.out (fun _ hk => trivial)⟩, ⟨by exact kP BK468.out⟩, ⟨by exact kP BK482.out⟩, ⟨by exact bB⟩⟩
  replace c29 := Bool.eq_false_iff.mpr c29
  subst c29
  rw [if_neg (show ¬ (false = true) by decide)] at H
  have H' := Aside0.mk H
  clear H
  obtain ⟨Ao32, co32, eo32⟩ := Kd.S_slice HO485.out
  subst eo32
  obtain ⟨Ao33, co33, eo33⟩ := Kd.N_slice HO476.out
  subst eo33
  go_wp2_with (first | ((with_reducible refine gate_callee (f := 11) rfl ?_);refine goesL_ (some 42) rfl rfl Tryd.func11 (by kernel_rfl) rfl #[.slice Ao32 t483.length co32, .slice Ao33 t474.length co33] rfl mM ?_;(with_reducible refine (laws_eqIntSS.calls k _ _ t483 _ _ t474 false _ ?side1 ?side2 ?side3 ?side4 A28.out).mono ?_);(case side1 => exact cP (Kd.S_reads' HO485.out).2.2);(case side2 => exact (Kd.S_reads' HO485.out).2.1);(case side3 => exact cP (Kd.N_reads' HO476.out).2.2);(case side4 => exact (Kd.N_reads' HO476.out).2.1);rintro e w' ⟨rfl, ⟨nd, rfl⟩⟩;refine ⟨_, rfl, ?_⟩))
  go_meet
  case rel => exact ⟨P9_, _, (true), eF, H', ⟨by first | omega | exact Nat.le_refl _⟩, ⟨by (with_reducible repeat (first | apply Kd.R_alloc | apply Kd.S_alloc | apply Kd.N_alloc | apply Kd.R_drewN | apply Kd.S_drewN | apply Kd.N_drewN | apply Kd.R_drew | apply Kd.S_drew | apply Kd.N_drew));exact Kd.N_mono HO476.out (fun _ hk => by first | exact hk | exact hk.2 | exact hk.1 | exact hk.2.1 | exact ⟨hk.1, hk.2.1⟩ | trivial)⟩, ⟨by (with_reducible repeat (first | apply Kd.R_alloc | apply Kd.S_alloc | apply Kd.N_alloc | apply Kd.R_drewN | apply Kd.S_drewN | apply Kd.N_drewN | apply Kd.R_drew | apply Kd.S_drew | apply Kd.N_drew));exact Kd.S_mono HO485.out (fun _ hk => by first | exact hk | exact hk.2 | exact hk.1 | exact hk.2.1 | exact ⟨hk.1, hk.2.1⟩ | trivial)⟩, ⟨by (with_reducible repeat (first | apply Kd.R_alloc | apply Kd.S_alloc | apply Kd.N_alloc | apply Kd.R_drewN | apply Kd.S_drewN | apply Kd.N_drewN | apply Kd.R_drew | apply Kd.S_drew | apply Kd.N_drew));exact Kd.R_mono HO481.out (fun _ hk => trivial)⟩, ⟨by exact kP BK468.out⟩, ⟨by exact kP BK482.out⟩, ⟨by exact bB⟩⟩
 case rest =>
  clear HC13
  try clear c1
  try clear c2
  try clear p2
  try clear c3
  try clear c5
  try clear c5b0
  try clear c7
  try clear c8
  try clear c9
  try clear c10
  try clear c11
  try clear c24
  try clear c29
  try clear hcz15_0
  try clear hcz15_1
  try clear hcz17_0
  try clear hcz17_1
  try clear hcz21_0
  try clear hcz21_1
  try clear hcz25_0
  try clear hcz25_1
  try clear hcz7_0
  try clear hcz7_1
  try clear hfz15_0
  try clear hfz15_1
  try clear hfz17_0
  try clear hfz17_1
  try clear hfz21_0
  try clear hfz21_1
  try clear hfz25_0
  try clear hfz25_1
  try clear hfz7_0
  try clear hfz7_1
  obtain ⟨P9_, kq, x48_12, rfl, HA, HJ12, HO_8, HO_11, HO_483001, BK468, BK482, HB⟩ := hcut
  cases kq with
  | zero => exact absurd HA.out (by simp [laws_FnExactEternalFamily.j0])
  | succ kj12 =>
   have H := HA.out
   clear HA
   simp only [laws_FnExactEternalFamily.j0] at H
   by_cases c34 : x48_12 = true
   ·subst c34
    rw [if_pos rfl] at H
    obtain rfl := Option.some.inj H
    go_wp2
    go_ret
    exact ⟨eW, by exact bB⟩
   replace c34 := Bool.eq_false_iff.mpr c34
   subst c34
   rw [if_neg (show ¬ (false = true) by decide)] at H
   replace H := Option.bind_eq_some_iff.mp H
   obtain ⟨⟨t488, t489⟩, A350, H⟩ := H
   try dsimp only at H
   have A35 := Aside0.mk A350
   clear A350
   replace H := Option.bind_eq_some_iff.mp H
   obtain ⟨t492, A360, H⟩ := H
   try dsimp only at H
   have A36 := Aside0.mk A360
   clear A360
   by_cases c37 : t492 = true
   rotate_left
   ·replace c37 := Bool.eq_false_iff.mpr c37
    subst c37
    rw [if_neg (show ¬ (false = true) by decide)] at H
    obtain rfl := Option.some.inj H
    try go_wp2
    have n0_ := aM (Kd.N_drew HO_8.out)
    have n1_ := aM (Kd.S_drew HO_11.out)
    have n2_ := aM (Kd.R_drew HO_483001.out)
    have n3_ := aM (blk_drew BK468.out)
    have n4_ := aM (blk_drew BK482.out)
    have n5_ := aM (below_drew1 HB.out)
    clear HO_8
    clear HO_11
    clear HO_483001
    clear BK468
    clear BK482
    clear HB
    have HO_8 := n0_
    have HO_11 := n1_
    have HO_483001 := n2_
    have BK468 := n3_
    have BK482 := n4_
    have HB := n5_
    clear n0_ n1_ n2_ n3_ n4_ n5_
    refine start_ (n := 5) (S := fun w' => w'.cell? ⟨gb482, 0, none⟩ = some (.int .i64 t478) ∧ w'.cell? ⟨gb482, 1, none⟩ = some (.slice Ao26 t479.length co26) ∧ w'.cell? ⟨gb468, 0, none⟩ = some (.int .i64 a0_0) ∧ w'.cell? ⟨gb468, 1, none⟩ = some (.slice A0_1 l0_1.length c0_1)) (ds := []) (pT 0 5) (by kernel_rfl) rfl rfl ⟨(blk_cell BK482.out 0).trans rfl, (blk_cell BK482.out 1).trans rfl, (blk_cell BK468.out 0).trans rfl, (blk_cell BK468.out 1).trans rfl⟩ (fun hHeld => ?_)
    generalize wc.drew = w83 at HO_8 HO_11 HO_483001 BK468 BK482 HB hHeld ⊢
    refine take_ (i := 0) (N := some 49) (v := ?_) (a' := ?_) (pT 1 4) rfl rfl (by kernel_rfl) (fun _ _ _ h => h) (Or.inl ⟨by rfl, ?_⟩) hHeld ?_ ?_
    rotate_left
    ·rintro w' ⟨s0, s1, s2, s3⟩
     go_simp
     with_reducible rfl
    rotate_left
    ·exact aP
    refine take_ (i := 1) (N := some 50) (v := ?_) (a' := ?_) (pT 2 3) rfl rfl (by kernel_rfl) (fun _ _ _ h => h) (Or.inl ⟨by rfl, ?_⟩) hHeld ?_ ?_
    rotate_left
    ·rintro w' ⟨s0, s1, s2, s3⟩
     go_simp
     with_reducible rfl
    rotate_left
    ·exact aP
    refine one_ (i := 2) (N := some 51) (pT 3 2) rfl rfl (by kernel_rfl) (by decide) (fun K hK => ?_)
    refine goes_ Tryd.func9 (by kernel_rfl) rfl #[.agg #[.int .i64 a0_0, .slice A0_1 l0_1.length c0_1]] (by rfl) rfl rfl mM ?_
    with_reducible refine (laws_toGraph.calls kj12 a0_0 _ _ l0_1 t488 t489 _ ?side1 ?side2 A35.out).mono ?_
    (case side1 => exact cP (Kd.C_below HR0_1.out HB.out))
    (case side2 => exact HC0_1.out)
    rintro e w84 ⟨v490, rfl, ho0, hb⟩
    refine ⟨_, rfl, ?_⟩
    have n0_ := aM (Kd.N_below (by exact uP HO_8.out) hb)
    have n1_ := aM (Kd.S_below (by exact tP HO_11.out) hb)
    have n2_ := aM (Kd.R_elder' (by exact rP HO_483001.out) (Kd.R_base ho0) hb)
    have n3_ := aM (Kd.R_lower (Kd.R_new' ho0 (Kd.R_lt (by exact rP HO_483001.out))) (below_size (by exact bB)))
    have n4_ := aM (kB hb BK468.out)
    have n5_ := aM (kB hb BK482.out)
    have n6_ := aM (below_step (by exact bB) hb)
    clear HO_8
    clear HO_11
    clear HO_483001
    clear BK468
    clear BK482
    clear HB
    have HO_8 := n0_
    have HO_11 := n1_
    have HO_483001 := n2_
    have HO491 := n3_
    have BK468 := n4_
    have BK482 := n5_
    have HB := n6_
    clear n0_ n1_ n2_ n3_ n4_ n5_ n6_
    (try clear hb)
    (try clear hb2)
    (try clear hk)
    (try clear hi)
    (try clear ho0)
    obtain ⟨Ao85, co85, eo85⟩ := Kd.R_slice HO491.out
    (first | subst eo85 | (injection eo85 with f1_ f2_ f3_;have f4_ := f1_.symm;have f5_ := f3_.symm;clear f1_ f2_ f3_;subst f4_;subst f5_))
    refine hK.out _ _ ⟨(blk_cell BK482.out 0).trans rfl, (blk_cell BK482.out 1).trans rfl, (blk_cell BK468.out 0).trans rfl, (blk_cell BK468.out 1).trans rfl⟩ (fun hHeld => ?_)
    clear hK K
    refine norm_ (a' := ?_) ?_ ?_
    rotate_left
    ·show Act.put _ (some 51) _ = _
     simp only [Act.put, List.setIfInBounds_toArray, List.set_cons_zero, List.set_cons_succ, i64_w, i32_w]
     rfl
    refine one_ (i := 3) (N := some 52) (pT 4 1) rfl rfl (by kernel_rfl) (by decide) (fun K hK => ?_)
    refine goes_ Tryd.func12 (by kernel_rfl) rfl #[.agg #[.int .i64 t478, .slice Ao26 t479.length co26], .agg #[.int .i64 t488, .slice Ao85 t489.length co85]] (by rfl) rfl rfl mM ?_
    with_reducible refine (laws_eqGraph.calls kj12 t478 _ _ t479 t488 _ _ t489 false _ ?side1 ?side2 ?side3 ?side4 A36.out).mono ?_
    (case side1 => exact cP (Kd.R_reads' HO_483001.out).2.2)
    (case side2 => exact (Kd.R_reads' HO_483001.out).2.1)
    (case side3 => exact cP (Kd.R_reads' HO491.out).2.2)
    (case side4 => exact (Kd.R_reads' HO491.out).2.1)
    rintro e w86 ⟨rfl, hb⟩
    refine ⟨_, rfl, ?_⟩
    have n0_ := aM (Kd.N_below (by exact uP HO_8.out) hb)
    have n1_ := aM (Kd.S_below (by exact tP HO_11.out) hb)
    have n2_ := aM (Kd.R_below (by exact rP HO_483001.out) hb)
    have n3_ := aM (Kd.R_below (by exact rP HO491.out) hb)
    have n4_ := aM (kB hb BK468.out)
    have n5_ := aM (kB hb BK482.out)
    have n6_ := aM (below_step (by exact bB) hb)
    clear HO_8
    clear HO_11
    clear HO_483001
    clear HO491
    clear BK468
    clear BK482
    clear HB
    have HO_8 := n0_
    have HO_11 := n1_
    have HO_483001 := n2_
    have HO491 := n3_
    have BK468 := n4_
    have BK482 := n5_
    have HB := n6_
    clear n0_ n1_ n2_ n3_ n4_ n5_ n6_
    (try clear hb)
    (try clear hb2)
    (try clear hk)
    (try clear hi)
    refine hK.out _ _ ⟨(blk_cell BK482.out 0).trans rfl, (blk_cell BK482.out 1).trans rfl, (blk_cell BK468.out 0).trans rfl, (blk_cell BK468.out 1).trans rfl⟩ (fun hHeld => ?_)
    clear hK K
    refine norm_ (a' := ?_) ?_ ?_
    rotate_left
    ·show Act.put _ (some 52) _ = _
     simp only [Act.put, List.setIfInBounds_toArray, List.set_cons_zero, List.set_cons_succ, i64_w, i32_w]
     rfl
    refine pure_ (i := 4) (N := some 53) (v := ?_) (a' := ?_) (pT 5 0) rfl rfl (by kernel_rfl) (fun _ _ _ h => h) (Or.inl ⟨by rfl, ?_⟩) ?_ ?_
    rotate_left
    ·intro w'
     go_simp
     with_reducible rfl
    rotate_left
    ·exact aP
    refine done_ (by kernel_rfl) ?_
    try go_wp2
    go_ret
    exact ⟨eW, by exact bB⟩
   subst c37
   rw [if_pos rfl] at H
   replace H := Option.bind_eq_some_iff.mp H
   obtain ⟨⟨t493, t494⟩, A380, H⟩ := H
   try dsimp only at H
   have A38 := Aside0.mk A380
   clear A380
   have HC39 := Aside0.mk H
   clear H
   try go_wp2
   have n0_ := aM (Kd.N_drew HO_8.out)
   have n1_ := aM (Kd.S_drew HO_11.out)
   have n2_ := aM (Kd.R_drew HO_483001.out)
   have n3_ := aM (blk_drew BK468.out)
   have n4_ := aM (blk_drew BK482.out)
   have n5_ := aM (below_drew1 HB.out)
   clear HO_8
   clear HO_11
   clear HO_483001
   clear BK468
   clear BK482
   clear HB
   have HO_8 := n0_
   have HO_11 := n1_
   have HO_483001 := n2_
   have BK468 := n3_
   have BK482 := n4_
   have HB := n5_
   clear n0_ n1_ n2_ n3_ n4_ n5_
   refine start_ (n := 5) (S := fun w' => w'.cell? ⟨gb482, 0, none⟩ = some (.int .i64 t478) ∧ w'.cell? ⟨gb482, 1, none⟩ = some (.slice Ao26 t479.length co26) ∧ w'.cell? ⟨gb468, 0, none⟩ = some (.int .i64 a0_0) ∧ w'.cell? ⟨gb468, 1, none⟩ = some (.slice A0_1 l0_1.length c0_1)) (ds := []) (pT 0 5) (by kernel_rfl) rfl rfl ⟨(blk_cell BK482.out 0).trans rfl, (blk_cell BK482.out 1).trans rfl, (blk_cell BK468.out 0).trans rfl, (blk_cell BK468.out 1).trans rfl⟩ (fun hHeld => ?_)
   generalize wc.drew = w40 at HO_8 HO_11 HO_483001 BK468 BK482 HB hHeld ⊢
   refine take_ (i := 0) (N := some 49) (v := ?_) (a' := ?_) (pT 1 4) rfl rfl (by kernel_rfl) (fun _ _ _ h => h) (Or.inl ⟨by rfl, ?_⟩) hHeld ?_ ?_
   rotate_left
   ·rintro w' ⟨s0, s1, s2, s3⟩
    go_simp
    with_reducible rfl
   rotate_left
   ·exact aP
   refine take_ (i := 1) (N := some 50) (v := ?_) (a' := ?_) (pT 2 3) rfl rfl (by kernel_rfl) (fun _ _ _ h => h) (Or.inl ⟨by rfl, ?_⟩) hHeld ?_ ?_
   rotate_left
   ·rintro w' ⟨s0, s1, s2, s3⟩
    go_simp
    with_reducible rfl
   rotate_left
   ·exact aP
   refine one_ (i := 2) (N := some 51) (pT 3 2) rfl rfl (by kernel_rfl) (by decide) (fun K hK => ?_)
   refine goes_ Tryd.func9 (by kernel_rfl) rfl #[.agg #[.int .i64 a0_0, .slice A0_1 l0_1.length c0_1]] (by rfl) rfl rfl mM ?_
   with_reducible refine (laws_toGraph.calls kj12 a0_0 _ _ l0_1 t488 t489 _ ?side1 ?side2 A35.out).mono ?_
   (case side1 => exact cP (Kd.C_below HR0_1.out HB.out))
   (case side2 => exact HC0_1.out)
   rintro e w41 ⟨v490, rfl, ho0, hb⟩
   refine ⟨_, rfl, ?_⟩
   have n0_ := aM (Kd.N_below (by exact uP HO_8.out) hb)
   have n1_ := aM (Kd.S_below (by exact tP HO_11.out) hb)
   have n2_ := aM (Kd.R_elder' (by exact rP HO_483001.out) (Kd.R_base ho0) hb)
   have n3_ := aM (Kd.R_lower (Kd.R_new' ho0 (Kd.R_lt (by exact rP HO_483001.out))) (below_size (by exact bB)))
   have n4_ := aM (kB hb BK468.out)
   have n5_ := aM (kB hb BK482.out)
   have n6_ := aM (below_step (by exact bB) hb)
   clear HO_8
   clear HO_11
   clear HO_483001
   clear BK468
   clear BK482
   clear HB
   have HO_8 := n0_
   have HO_11 := n1_
   have HO_483001 := n2_
   have HO491 := n3_
   have BK468 := n4_
   have BK482 := n5_
   have HB := n6_
   clear n0_ n1_ n2_ n3_ n4_ n5_ n6_
   (try clear hb)
   (try clear hb2)
   (try clear hk)
   (try clear hi)
   (try clear ho0)
   obtain ⟨Ao42, co42, eo42⟩ := Kd.R_slice HO491.out
   (first | subst eo42 | (injection eo42 with f1_ f2_ f3_;have f4_ := f1_.symm;have f5_ := f3_.symm;clear f1_ f2_ f3_;subst f4_;subst f5_))
   refine hK.out _ _ ⟨(blk_cell BK482.out 0).trans rfl, (blk_cell BK482.out 1).trans rfl, (blk_cell BK468.out 0).trans rfl, (blk_cell BK468.out 1).trans rfl⟩ (fun hHeld => ?_)
   clear hK K
   refine norm_ (a' := ?_) ?_ ?_
   rotate_left
   ·show Act.put _ (some 51) _ = _
    simp only [Act.put, List.setIfInBounds_toArray, List.set_cons_zero, List.set_cons_succ, i64_w, i32_w]
    rfl
   refine one_ (i := 3) (N := some 52) (pT 4 1) rfl rfl (by kernel_rfl) (by decide) (fun K hK => ?_)
   refine goes_ Tryd.func12 (by kernel_rfl) rfl #[.agg #[.int .i64 t478, .slice Ao26 t479.length co26], .agg #[.int .i64 t488, .slice Ao42 t489.length co42]] (by rfl) rfl rfl mM ?_
   with_reducible refine (laws_eqGraph.calls kj12 t478 _ _ t479 t488 _ _ t489 true _ ?side1 ?side2 ?side3 ?side4 A36.out).mono ?_
   (case side1 => exact cP (Kd.R_reads' HO_483001.out).2.2)
   (case side2 => exact (Kd.R_reads' HO_483001.out).2.1)
   (case side3 => exact cP (Kd.R_reads' HO491.out).2.2)
   (case side4 => exact (Kd.R_reads' HO491.out).2.1)
   rintro e w43 ⟨rfl, hb⟩
   refine ⟨_, rfl, ?_⟩
   have n0_ := aM (Kd.N_below (by exact uP HO_8.out) hb)
   have n1_ := aM (Kd.S_below (by exact tP HO_11.out) hb)
   have n2_ := aM (Kd.R_below (by exact rP HO_483001.out) hb)
   have n3_ := aM (Kd.R_below (by exact rP HO491.out) hb)
   have n4_ := aM (kB hb BK468.out)
   have n5_ := aM (kB hb BK482.out)
   have n6_ := aM (below_step (by exact bB) hb)
   clear HO_8
   clear HO_11
   clear HO_483001
   clear HO491
   clear BK468
   clear BK482
   clear HB
   have HO_8 := n0_
   have HO_11 := n1_
   have HO_483001 := n2_
   have HO491 := n3_
   have BK468 := n4_
   have BK482 := n5_
   have HB := n6_
   clear n0_ n1_ n2_ n3_ n4_ n5_ n6_
   (try clear hb)
   (try clear hb2)
   (try clear hk)
   (try clear hi)
   refine hK.out _ _ ⟨(blk_cell BK482.out 0).trans rfl, (blk_cell BK482.out 1).trans rfl, (blk_cell BK468.out 0).trans rfl, (blk_cell BK468.out 1).trans rfl⟩ (fun hHeld => ?_)
   clear hK K
   refine norm_ (a' := ?_) ?_ ?_
   rotate_left
   ·show Act.put _ (some 52) _ = _
    simp only [Act.put, List.setIfInBounds_toArray, List.set_cons_zero, List.set_cons_succ, i64_w, i32_w]
    rfl
   refine pure_ (i := 4) (N := some 53) (v := ?_) (a' := ?_) (pT 5 0) rfl rfl (by kernel_rfl) (fun _ _ _ h => h) (Or.inl ⟨by rfl, ?_⟩) ?_ ?_
   rotate_left
   ·intro w'
    go_simp
    with_reducible rfl
   rotate_left
   ·exact aP
   refine done_ (by kernel_rfl) ?_
   have hnb44 := NB482_468.out
   have hnc44 := NB468_482.out
   have hcz45_0 := bC0 BK482.out
   have hcz45_1 := bC1 BK482.out
   have hfz45_0 := blk_frozen BK482.out 0
   have hfz45_1 := blk_frozen BK482.out 1
   go_upto_region 14 with (first | ((with_reducible refine gate_callee (f := 13) rfl ?_);refine goesL_ (some 56) rfl rfl Tryd.func13 (by kernel_rfl) rfl #[.agg #[.int .i64 t478, .slice Ao26 t479.length co26], .int .i64 1] rfl mM ?_;(with_reducible refine (laws_markGraph.calls t478 (fun k_ => some k_ = (.slice Ao26 t479.length co26 : Value).ownBlock) (.slice Ao26 t479.length co26) t479 1 t493 t494 w _ ?side1 ?side2 A38.out).mono ?_);(case side1 => exact bB);(case side2 => exact Kd.R_tight rfl HO_483001.out);rintro e w46 ⟨rfl, hy0, hb, hkp⟩;refine ⟨_, rfl, ?_⟩;have n0_ := aM (Kd.N_mono (ok' := fun k_ => ¬ P9_ k_) (Kd.N_keptB HO_8.out hkp (fun k_ hk_ hs_ => hk_.2 hs_)) (fun k_ hk_ => hk_.1.1));have n1_ := aM (Kd.S_mono (ok' := fun k_ => P9_ k_) (Kd.S_keptB (Kd.S_apart' HO_11.out (Kd.R_typed HO_483001.out) (by decide)) hkp (fun k_ hk_ hs_ => hk_.2 hs_)) (fun k_ hk_ => hk_.1.1));have n2_ := aM (Kd.R_reok rfl hy0 (fun k_ e_ => HO_483001.out.1 k_ e_));have n3_ := aM (blk_kept (by exact kP BK468.out) hkp (fun hs_ => (fun e_ => (Kd.R_ne HO_483001.out BK468.out (by decide)) e_) hs_));have n4_ := aM (blk_kept (by exact kP BK482.out) hkp (fun hs_ => (fun e_ => (Kd.R_ne HO_483001.out BK482.out (by decide)) e_) hs_));have n5_ := aM (Kd.R_mono (ok' := fun k_ => some k_ ≠ (.slice Ao26 t479.length co26 : Value).ownBlock) (Kd.R_keptB (HO491.out) hkp (fun k_ hk_ hs_ => (hk_.2) hs_)) (fun k_ hk_ => hk_.1.2));have n6_ := aM (hb);clear HO_8;clear HO_11;clear HO_483001;clear BK468;clear BK482;clear HO491;clear HB;have HO_8 := n0_;have HO_11 := n1_;have HO_483001 := n2_;have BK468 := n3_;have BK482 := n4_;have HO491 := n5_;have HB := n6_;clear n0_ n1_ n2_ n3_ n4_ n5_ n6_;(try clear hb);(try clear hkp);(try clear hy0)))
   (try simp only [Act.put, List.setIfInBounds_toArray, List.set_cons_zero, List.set_cons_succ])
   go_cut [69] (fun v69 wc => ∃ (P9_ : Nat → Prop) (kq : Nat) (x69_38 : Bool), v69 = .bool x69_38 ∧ Aside0 (laws_FnExactEternalFamily.j1 kq a1 a2 t474 t477 t483 x69_38 a0_0 l0_1 = some r) ∧ Aside0 (kq ≤ kj12) ∧ Aside0 (Kd.N (Kd.slice 3 (Kd.int .i64)) 36 wc w.heap.size (fun k_ => ¬ P9_ k_) v475 t474) ∧ Aside0 (Kd.S (Kd.slice 3 (Kd.int .i64)) 36 wc w.heap.size (fun k_ => P9_ k_) v484 t483) ∧ Aside0 (Kd.R k78 78 wc w.heap.size (fun _ => True) (.slice Ao26 t479.length co26) t494) ∧ Aside0 (wc.heap[gb468]? = some (.cells #[.int .i64 a0_0, (.slice A0_1 l0_1.length c0_1)] 24 (0, 0))) ∧ Aside0 (wc.heap[gb482]? = some (.cells #[.int .i64 t478, (.slice Ao26 t479.length co26)] 29 (0, 0))) ∧ Aside0 (Below w.heap.size w wc))
   case first =>
    have H := HC39.out
    clear HC39
    by_cases c47 : t493 < 0
    ·rw [if_pos c47] at H
     have c47b0 : decide (t493 < 0) = true := decide_eq_true c47
     clear c47
     (first | rw [c47b0] | (simp only [i64_w, i32_w];rw [c47b0]) | skip)
     have H' := Aside0.mk H
     clear H
     go_wp2
     go_meet
     case rel => exact ⟨P9_, _, (true), eF, H', ⟨by have := HJ12.out;first | omega | exact Nat.le_refl _⟩, ⟨by (with_reducible repeat (first | apply Kd.R_alloc | apply Kd.S_alloc | apply Kd.N_alloc | apply Kd.R_drewN | apply Kd.S_drewN | apply Kd.N_drewN | apply Kd.R_drew | apply Kd.S_drew | apply Kd.N_drew));exact HO_8.out⟩, ⟨by (with_reducible repeat (first | apply Kd.R_alloc | apply Kd.S_alloc | apply Kd.N_alloc | apply Kd.R_drewN | apply Kd.S_drewN | apply Kd.N_drewN | apply Kd.R_drew | apply Kd.S_drew | apply Kd.N_drew));exact HO_11.out⟩, ⟨by (with_reducible repeat (first | apply Kd.R_alloc | apply Kd.S_alloc | apply Kd.N_alloc | apply Kd.R_drewN | apply Kd.S_drewN | apply Kd.N_drewN | apply Kd.R_drew | apply Kd.S_drew | apply Kd.N_drew));exact Kd.R_mono HO_483001.out (fun _ hk => trivial)⟩, ⟨by exact kP BK468.out⟩, ⟨by exact kP BK482.out⟩, ⟨by exact bB⟩⟩
    rw [if_neg c47] at H
    have c47b0 : decide (t493 < 0) = false := decide_eq_false c47
    clear c47
    (first | rw [c47b0] | (simp only [i64_w, i32_w];rw [c47b0]) | skip)
    replace H := Option.bind_eq_some_iff.mp H
    obtain ⟨t495, A480, H⟩ := H
    try dsimp only at H
    have A48 := Aside0.mk A480
    clear A480
    by_cases c49 : t495 = true
    ·subst c49
     rw [if_pos rfl] at H
     have H' := Aside0.mk H
     clear H
     obtain ⟨Ao50, co50, eo50⟩ := Kd.S_slice HO_11.out
     subst eo50
     obtain ⟨Ao51, co51, eo51⟩ := Kd.N_slice HO_8.out
     subst eo51
     go_wp2_with (first | (go_at_call 11;(with_reducible refine (laws_eqIntSS.calls kj12 _ _ t483 _ _ t474 true _ ?side1 ?side2 ?side3 ?side4 A48.out).mono ?_);(case side1 => exact cP (Kd.S_reads' HO_11.out).2.2);(case side2 => exact (Kd.S_reads' HO_11.out).2.1);(case side3 => exact cP (Kd.N_reads' HO_8.out).2.2);(case side4 => exact (Kd.N_reads' HO_8.out).2.1);rintro e w' ⟨rfl, ⟨nd, rfl⟩⟩))
     go_meet
     case rel => exact ⟨P9_, _, ((t486 != t477)), eF, H', ⟨by have := HJ12.out;first | omega | exact Nat.le_refl _⟩, ⟨by (with_reducible repeat (first | apply Kd.R_alloc | apply Kd.S_alloc | apply Kd.N_alloc | apply Kd.R_drewN | apply Kd.S_drewN | apply Kd.N_drewN | apply Kd.R_drew | apply Kd.S_drew | apply Kd.N_drew));exact HO_8.out⟩, ⟨by (with_reducible repeat (first | apply Kd.R_alloc | apply Kd.S_alloc | apply Kd.N_alloc | apply Kd.R_drewN | apply Kd.S_drewN | apply Kd.N_drewN | apply Kd.R_drew | apply Kd.S_drew | apply Kd.N_drew));exact HO_11.out⟩, ⟨by (with_reducible repeat (first | apply Kd.R_alloc | apply Kd.S_alloc | apply Kd.N_alloc | apply Kd.R_drewN | apply Kd.S_drewN | apply Kd.N_drewN | apply Kd.R_drew | apply Kd.S_drew | apply Kd.N_drew));exact Kd.R_mono HO_483001.out (fun _ hk => trivial)⟩, ⟨by exact kP BK468.out⟩, ⟨by exact kP BK482.out⟩, ⟨by exact bB⟩⟩
    replace c49 := Bool.eq_false_iff.mpr c49
    subst c49
    rw [if_neg (show ¬ (false = true) by decide)] at H
    have H' := Aside0.mk H
    clear H
    obtain ⟨Ao52, co52, eo52⟩ := Kd.S_slice HO_11.out
    subst eo52
    obtain ⟨Ao53, co53, eo53⟩ := Kd.N_slice HO_8.out
    subst eo53
    go_wp2_with (first | (go_at_call 11;(with_reducible refine (laws_eqIntSS.calls kj12 _ _ t483 _ _ t474 false _ ?side1 ?side2 ?side3 ?side4 A48.out).mono ?_);(case side1 => exact cP (Kd.S_reads' HO_11.out).2.2);(case side2 => exact (Kd.S_reads' HO_11.out).2.1);(case side3 => exact cP (Kd.N_reads' HO_8.out).2.2);(case side4 => exact (Kd.N_reads' HO_8.out).2.1);rintro e w' ⟨rfl, ⟨nd, rfl⟩⟩))
    go_meet
    case rel => exact ⟨P9_, _, (true), eF, H', ⟨by have := HJ12.out;first | omega | exact Nat.le_refl _⟩, ⟨by (with_reducible repeat (first | apply Kd.R_alloc | apply Kd.S_alloc | apply Kd.N_alloc | apply Kd.R_drewN | apply Kd.S_drewN | apply Kd.N_drewN | apply Kd.R_drew | apply Kd.S_drew | apply Kd.N_drew));exact HO_8.out⟩, ⟨by (with_reducible repeat (first | apply Kd.R_alloc | apply Kd.S_alloc | apply Kd.N_alloc | apply Kd.R_drewN | apply Kd.S_drewN | apply Kd.N_drewN | apply Kd.R_drew | apply Kd.S_drew | apply Kd.N_drew));exact HO_11.out⟩, ⟨by (with_reducible repeat (first | apply Kd.R_alloc | apply Kd.S_alloc | apply Kd.N_alloc | apply Kd.R_drewN | apply Kd.S_drewN | apply Kd.N_drewN | apply Kd.R_drew | apply Kd.S_drew | apply Kd.N_drew));exact Kd.R_mono HO_483001.out (fun _ hk => trivial)⟩, ⟨by exact kP BK468.out⟩, ⟨by exact kP BK482.out⟩, ⟨by exact bB⟩⟩
   case rest =>
    clear HC39
    try clear c1
    try clear c2
    try clear p2
    try clear c3
    try clear c4
    try clear c5
    try clear c5b0
    try clear c7
    try clear c8
    try clear c9
    try clear c10
    try clear c11
    try clear c12
    try clear c13
    try clear c24
    try clear c29
    try clear c34
    try clear c37
    try clear c44
    try clear c47
    try clear c47b0
    try clear c49
    try clear hcz15_0
    try clear hcz15_1
    try clear hcz17_0
    try clear hcz17_1
    try clear hcz21_0
    try clear hcz21_1
    try clear hcz25_0
    try clear hcz25_1
    try clear hcz45_0
    try clear hcz45_1
    try clear hcz7_0
    try clear hcz7_1
    try clear hfz15_0
    try clear hfz15_1
    try clear hfz17_0
    try clear hfz17_1
    try clear hfz21_0
    try clear hfz21_1
    try clear hfz25_0
    try clear hfz25_1
    try clear hfz45_0
    try clear hfz45_1
    try clear hfz7_0
    try clear hfz7_1
    try clear p2
    obtain ⟨P9_, kq, x69_38, rfl, HA, HJ38, HO_8, HO_11, HO_483001, BK468, BK482, HB⟩ := hcut
    have hl483001_38 := (Kd.R_reads' HO_483001.out).1
    rw [hl483001_38] at HO_483001
    (try simp only [hl483001_38])
    (try simp only [hl483001_38] at BK468)
    (try simp only [hl483001_38] at BK482)
    (try simp only [hl483001_38] at HO_8)
    (try simp only [hl483001_38] at HO_11)
    cases kq with
    | zero => exact absurd HA.out (by simp [laws_FnExactEternalFamily.j1])
    | succ kj38 =>
     have H := HA.out
     clear HA
     simp only [laws_FnExactEternalFamily.j1] at H
     by_cases c54 : x69_38 = true
     ·subst c54
      rw [if_pos rfl] at H
      obtain rfl := Option.some.inj H
      go_wp2
      go_ret
      exact ⟨eW, by exact bB⟩
     replace c54 := Bool.eq_false_iff.mpr c54
     subst c54
     rw [if_neg (show ¬ (false = true) by decide)] at H
     replace H := Option.bind_eq_some_iff.mp H
     obtain ⟨⟨t496, t497⟩, A550, H⟩ := H
     try dsimp only at H
     have A55 := Aside0.mk A550
     clear A550
     replace H := Option.bind_eq_some_iff.mp H
     obtain ⟨t498, A560, H⟩ := H
     try dsimp only at H
     have A56 := Aside0.mk A560
     clear A560
     by_cases c57 : t498 < 0
     ·rw [if_pos c57] at H
      have c57b0 : decide (t498 < 0) = true := decide_eq_true c57
      clear c57
      obtain rfl := Option.some.inj H
      obtain ⟨Ao58, co58, eo58⟩ := Kd.S_slice HO_11.out
      subst eo58
      go_wp2_with (first | ((with_reducible refine gate_callee (f := 14) rfl ?_);refine goesL_ (some 72) rfl rfl Tryd.func14 (by kernel_rfl) rfl #[.slice Ao58 t483.length co58, .int .i64 1] rfl mM ?_;(with_reducible refine (laws_markIntSS.calls kj38 ?P9a0 (.slice Ao58 t483.length co58) t483 1 t496 t497 w _ ?side1 ?side2 A55.out).mono ?_);(case side1 => exact bB);(case side2 => exact mine9 HO_11.out);rintro e w59 ⟨rfl, hy0, hb, hkp⟩;refine ⟨_, rfl, ?_⟩;have n0_ := aM (Kd.N_mono (ok' := fun k_ => ¬ P9_ k_) (Kd.N_keptB HO_8.out hkp (fun k_ hk_ hs_ => hk_ hs_.1)) (fun k_ hk_ => hk_.1));have n1_ := aM (Kd.S_mono (ok' := fun k_ => True) hy0 (fun _ _ => trivial));have n2_ := aM (Kd.R_mono (ok' := fun k_ => True) (Kd.R_keptB (mine9_R HO_483001.out (by decide)) hkp (fun k_ hk_ hs_ => hk_ hs_)) (fun k_ hk_ => trivial));have n3_ := aM (blk_kept (by exact kP BK468.out) hkp (fun hs_ => mine9_block hs_ BK468.out (by decide)));have n4_ := aM (blk_kept (by exact kP BK482.out) hkp (fun hs_ => mine9_block hs_ BK482.out (by decide)));have n5_ := aM (hb);clear HO_8;clear HO_11;clear HO_483001;clear BK468;clear BK482;clear HB;have HO_8 := n0_;have HO_11 := n1_;have HO_483001 := n2_;have BK468 := n3_;have BK482 := n4_;have HB := n5_;clear n0_ n1_ n2_ n3_ n4_ n5_;(try clear hb);(try clear hkp);(try clear hy0)) | ((with_reducible refine gate_callee (f := 15) rfl ?_);refine goesL_ (some 75) rfl rfl Tryd.func15 (by kernel_rfl) rfl #[.slice Ao58 t497.length co58, .int .i64 1] rfl (by (try simp only [List.map_toArray, List.map_cons, List.map_nil]);first | done | (rw [show t497.length = t483.length from (Kd.S_reads' HO_11.out).1.symm] <;> rfl) | rfl | (simp only [List.length_drop, List.length_take];rfl)) ?_;(with_reducible refine (laws_heldIntSS.calls kj38 _ _ t497 1 t498 _ ?side1 ?side2 A56.out).mono ?_);(case side1 => exact cP (Kd.S_reads' HO_11.out).2.2);(case side2 => rw [show t497.length = t483.length from (Kd.S_reads' HO_11.out).1.symm];exact (Kd.S_reads' HO_11.out).2.1);rintro e w' ⟨rfl, ⟨nd, rfl⟩⟩;refine ⟨_, rfl, ?_⟩))
      go_ret
      exact ⟨eW, by exact bB⟩
     rw [if_neg c57] at H
     have c57b0 : decide (t498 < 0) = false := decide_eq_false c57
     clear c57
     by_cases c60 : t498 = t496
     rotate_left
     ·rw [if_neg c60] at H
      have c60b0 : (t498 == t496) = false := beq_eq_false_iff_ne.mpr c60
      have c60b1 : (t498 != t496) = true := bne_iff_ne.mpr c60
      obtain rfl := Option.some.inj H
      obtain ⟨Ao81, co81, eo81⟩ := Kd.S_slice HO_11.out
      subst eo81
      go_wp2_with (first | ((with_reducible refine gate_callee (f := 14) rfl ?_);refine goesL_ (some 72) rfl rfl Tryd.func14 (by kernel_rfl) rfl #[.slice Ao81 t483.length co81, .int .i64 1] rfl mM ?_;(with_reducible refine (laws_markIntSS.calls kj38 ?P9a2 (.slice Ao81 t483.length co81) t483 1 t496 t497 w _ ?side1 ?side2 A55.out).mono ?_);(case side1 => exact bB);(case side2 => exact mine9 HO_11.out);rintro e w82 ⟨rfl, hy0, hb, hkp⟩;refine ⟨_, rfl, ?_⟩;have n0_ := aM (Kd.N_mono (ok' := fun k_ => ¬ P9_ k_) (Kd.N_keptB HO_8.out hkp (fun k_ hk_ hs_ => hk_ hs_.1)) (fun k_ hk_ => hk_.1));have n1_ := aM (Kd.S_mono (ok' := fun k_ => True) hy0 (fun _ _ => trivial));have n2_ := aM (Kd.R_mono (ok' := fun k_ => True) (Kd.R_keptB (mine9_R HO_483001.out (by decide)) hkp (fun k_ hk_ hs_ => hk_ hs_)) (fun k_ hk_ => trivial));have n3_ := aM (blk_kept (by exact kP BK468.out) hkp (fun hs_ => mine9_block hs_ BK468.out (by decide)));have n4_ := aM (blk_kept (by exact kP BK482.out) hkp (fun hs_ => mine9_block hs_ BK482.out (by decide)));have n5_ := aM (hb);clear HO_8;clear HO_11;clear HO_483001;clear BK468;clear BK482;clear HB;have HO_8 := n0_;have HO_11 := n1_;have HO_483001 := n2_;have BK468 := n3_;have BK482 := n4_;have HB := n5_;clear n0_ n1_ n2_ n3_ n4_ n5_;(try clear hb);(try clear hkp);(try clear hy0)) | ((with_reducible refine gate_callee (f := 15) rfl ?_);refine goesL_ (some 75) rfl rfl Tryd.func15 (by kernel_rfl) rfl #[.slice Ao81 t497.length co81, .int .i64 1] rfl (by (try simp only [List.map_toArray, List.map_cons, List.map_nil]);first | done | (rw [show t497.length = t483.length from (Kd.S_reads' HO_11.out).1.symm] <;> rfl) | rfl | (simp only [List.length_drop, List.length_take];rfl)) ?_;(with_reducible refine (laws_heldIntSS.calls kj38 _ _ t497 1 t498 _ ?side1 ?side2 A56.out).mono ?_);(case side1 => exact cP (Kd.S_reads' HO_11.out).2.2);(case side2 => rw [show t497.length = t483.length from (Kd.S_reads' HO_11.out).1.symm];exact (Kd.S_reads' HO_11.out).2.1);rintro e w' ⟨rfl, ⟨nd, rfl⟩⟩;refine ⟨_, rfl, ?_⟩))
      go_ret
      exact ⟨eW, by exact bB⟩
     rw [if_pos c60] at H
     have c60b0 : (t498 == t496) = true := beq_iff_eq.mpr c60
     have c60b1 : (t498 != t496) = false := bne_eq_false_iff_eq.mpr c60
     clear c60
     replace H := Option.bind_eq_some_iff.mp H
     obtain ⟨⟨t499, t500⟩, A610, H⟩ := H
     try dsimp only at H
     have A61 := Aside0.mk A610
     clear A610
     replace H := Option.bind_eq_some_iff.mp H
     obtain ⟨⟨t503, t506⟩, A620, H⟩ := H
     try dsimp only at H
     have A62 := Aside0.mk A620
     clear A620
     have HC63 := Aside0.mk H
     clear H
     obtain ⟨Ao64, co64, eo64⟩ := Kd.S_slice HO_11.out
     subst eo64
     go_upto_region 25 with (first | ((with_reducible refine gate_callee (f := 14) rfl ?_);refine goesL_ (some 72) rfl rfl Tryd.func14 (by kernel_rfl) rfl #[.slice Ao64 t483.length co64, .int .i64 1] rfl mM ?_;(with_reducible refine (laws_markIntSS.calls kj38 ?P9a1 (.slice Ao64 t483.length co64) t483 1 t496 t497 w _ ?side1 ?side2 A55.out).mono ?_);(case side1 => exact bB);(case side2 => exact mine9 HO_11.out);rintro e w65 ⟨rfl, hy0, hb, hkp⟩;refine ⟨_, rfl, ?_⟩;have n0_ := aM (Kd.N_mono (ok' := fun k_ => ¬ P9_ k_) (Kd.N_keptB HO_8.out hkp (fun k_ hk_ hs_ => hk_ hs_.1)) (fun k_ hk_ => hk_.1));have n1_ := aM (Kd.S_mono (ok' := fun k_ => True) hy0 (fun _ _ => trivial));have n2_ := aM (Kd.R_mono (ok' := fun k_ => True) (Kd.R_keptB (mine9_R HO_483001.out (by decide)) hkp (fun k_ hk_ hs_ => hk_ hs_)) (fun k_ hk_ => trivial));have n3_ := aM (blk_kept (by exact kP BK468.out) hkp (fun hs_ => mine9_block hs_ BK468.out (by decide)));have n4_ := aM (blk_kept (by exact kP BK482.out) hkp (fun hs_ => mine9_block hs_ BK482.out (by decide)));have n5_ := aM (hb);clear HO_8;clear HO_11;clear HO_483001;clear BK468;clear BK482;clear HB;have HO_8 := n0_;have HO_11 := n1_;have HO_483001 := n2_;have BK468 := n3_;have BK482 := n4_;have HB := n5_;clear n0_ n1_ n2_ n3_ n4_ n5_;(try clear hb);(try clear hkp);(try clear hy0)) | ((with_reducible refine gate_callee (f := 15) rfl ?_);refine goesL_ (some 75) rfl rfl Tryd.func15 (by kernel_rfl) rfl #[.slice Ao64 t497.length co64, .int .i64 1] rfl (by (try simp only [List.map_toArray, List.map_cons, List.map_nil]);first | done | (rw [show t497.length = t483.length from (Kd.S_reads' HO_11.out).1.symm] <;> rfl) | rfl | (simp only [List.length_drop, List.length_take];rfl)) ?_;(with_reducible refine (laws_heldIntSS.calls kj38 _ _ t497 1 t498 _ ?side1 ?side2 A56.out).mono ?_);(case side1 => exact cP (Kd.S_reads' HO_11.out).2.2);(case side2 => rw [show t497.length = t483.length from (Kd.S_reads' HO_11.out).1.symm];exact (Kd.S_reads' HO_11.out).2.1);rintro e w' ⟨rfl, ⟨nd, rfl⟩⟩;refine ⟨_, rfl, ?_⟩;have hnb66 := NB468_482.out;have hnc66 := NB482_468.out;have hcz67_0 := bC0 BK468.out;have hcz67_1 := bC1 BK468.out;have hfz67_0 := blk_frozen BK468.out 0;have hfz67_1 := blk_frozen BK468.out 1) | ((with_reducible refine gate_callee (f := 9) rfl ?_);refine goesL_ (some 83) rfl rfl Tryd.func9 (by kernel_rfl) rfl #[.agg #[.int .i64 a0_0, .slice A0_1 l0_1.length c0_1]] rfl mM ?_;(with_reducible refine (laws_toGraph.calls kj38 a0_0 _ _ l0_1 t499 t500 _ ?side1 ?side2 A61.out).mono ?_);(case side1 => exact cP (Kd.C_below HR0_1.out (by repeat (first | (with_reducible first | exact HB.out | apply below_alloc | apply pw_below_drewN | apply below_drew1 | refine below_set ?_ GE468.out | refine below_set ?_ GE482.out) | exact HB.out))));(case side2 => exact HC0_1.out);rintro e w68 ⟨v501, rfl, ho0, hb⟩;refine ⟨_, rfl, ?_⟩;have n0_ := aM (Kd.N_below (by exact uP HO_8.out) hb);have n1_ := aM (Kd.S_below (by exact tP HO_11.out) hb);have n2_ := aM (Kd.R_elder' (by exact rP HO_483001.out) (Kd.R_base ho0) hb);have n3_ := aM (Kd.R_lower (Kd.R_new' ho0 (Kd.R_lt (by exact rP HO_483001.out))) (below_size (by exact bB)));have n4_ := aM (kB hb BK468.out);have n5_ := aM (kB hb BK482.out);have n6_ := aM (below_step (by exact bB) hb);clear HO_8;clear HO_11;clear HO_483001;clear BK468;clear BK482;clear HB;have HO_8 := n0_;have HO_11 := n1_;have HO_483001 := n2_;have HO502 := n3_;have BK468 := n4_;have BK482 := n5_;have HB := n6_;clear n0_ n1_ n2_ n3_ n4_ n5_ n6_;(try clear hb);(try clear ho0);obtain ⟨Ao69, co69, eo69⟩ := Kd.R_slice HO502.out;subst eo69) | ((with_reducible refine gate_callee (f := 10) rfl ?_);refine goesL_ (some 86) rfl rfl Tryd.func10 (by kernel_rfl) rfl #[.agg #[.int .i64 t499, .slice Ao69 t500.length co69], .int .i64 a1, .bool a2] rfl mM ?_;(with_reducible refine (impl_EternalFamily.calls kj38 t499 _ _ t500 a1 a2 t503 t506 _ ?sideT ?side1 ?side2 A62.out).mono ?_);(case sideT => exact tabG_below HT.out (by exact bB));(case side1 => exact cP (Kd.R_reads' HO502.out).2.2);(case side2 => exact (Kd.R_reads' HO502.out).2.1);rintro e w70 ⟨v504, rfl, ho0, hb⟩;refine ⟨_, rfl, ?_⟩;have n0_ := aM (Kd.N_elder' (by exact uP HO_8.out) (Kd.S_base ho0) hb);have n1_ := aM (Kd.S_elder' (by exact tP HO_11.out) (Kd.S_base ho0) hb);have n2_ := aM (Kd.R_below (by exact rP HO_483001.out) hb);have n3_ := aM (Kd.R_below (by exact rP HO502.out) hb);have n4_ := aM (Kd.S_lower (Kd.S_new' (Kd.S_new' ho0 (Kd.N_lt (by exact uP HO_8.out))) (Kd.S_lt (by exact tP HO_11.out))) (below_size (by exact bB)));have n5_ := aM (kB hb BK468.out);have n6_ := aM (kB hb BK482.out);have n7_ := aM (below_step (by exact bB) hb);clear HO_8;clear HO_11;clear HO_483001;clear HO502;clear BK468;clear BK482;clear HB;have HO_8 := n0_;have HO_11 := n1_;have HO_483001 := n2_;have HO502 := n3_;have HO505 := n4_;have BK468 := n5_;have BK482 := n6_;have HB := n7_;clear n0_ n1_ n2_ n3_ n4_ n5_ n6_ n7_;(try clear hb);(try clear ho0)))
     (try simp only [Act.put, List.setIfInBounds_toArray, List.set_cons_zero, List.set_cons_succ])
     go_cut [97] (fun v97 wc => ∃ (kq : Nat) (x97_62 : Bool), v97 = .bool x97_62 ∧ Aside0 (laws_FnExactEternalFamily.j2 kq t497 t496 x97_62 = some r) ∧ Aside0 (kq ≤ kj38) ∧ Aside0 (Kd.S (Kd.slice 3 (Kd.int .i64)) 36 wc w.heap.size (fun k_ => True) (.slice Ao64 t483.length co64) t497) ∧ Aside0 (Kd.R k78 78 wc w.heap.size (fun _ => True) (.slice Ao26 t494.length co26) t494) ∧ Aside0 (wc.heap[gb468]? = some (.cells #[.int .i64 a0_0, (.slice A0_1 l0_1.length c0_1)] 24 (0, 0))) ∧ Aside0 (wc.heap[gb482]? = some (.cells #[.int .i64 t478, (.slice Ao26 t494.length co26)] 29 (0, 0))) ∧ Aside0 (Below w.heap.size w wc))
     case first =>
      have H := HC63.out
      clear HC63
      replace H := Option.bind_eq_some_iff.mp H
      obtain ⟨t507, A710, H⟩ := H
      try dsimp only at H
      have A71 := Aside0.mk A710
      clear A710
      by_cases c72 : t507 = true
      ·subst c72
       rw [if_pos rfl] at H
       have H' := Aside0.mk H
       clear H
       obtain ⟨Ao73, co73, eo73⟩ := Kd.S_slice HO505.out
       subst eo73
       obtain ⟨Ao74, co74, eo74⟩ := Kd.N_slice HO_8.out
       subst eo74
       go_wp2_with (first | ((with_reducible refine gate_callee (f := 11) rfl ?_);refine goesL_ (some 91) rfl rfl Tryd.func11 (by kernel_rfl) rfl #[.slice Ao73 t503.length co73, .slice Ao74 t474.length co74] rfl mM ?_;(with_reducible refine (laws_eqIntSS.calls kj38 _ _ t503 _ _ t474 true _ ?side1 ?side2 ?side3 ?side4 A71.out).mono ?_);(case side1 => exact cP (Kd.S_reads' HO505.out).2.2);(case side2 => exact (Kd.S_reads' HO505.out).2.1);(case side3 => exact cP (Kd.N_reads' HO_8.out).2.2);(case side4 => exact (Kd.N_reads' HO_8.out).2.1);rintro e w' ⟨rfl, ⟨nd, rfl⟩⟩;refine ⟨_, rfl, ?_⟩))
       go_meet
       case rel => exact ⟨_, ((t506 != t477)), eF, H', ⟨by have := HJ12.out;have := HJ38.out;first | omega | exact Nat.le_refl _⟩, ⟨by (try simp only [hl483001_38]);(with_reducible repeat (first | apply Kd.R_alloc | apply Kd.S_alloc | apply Kd.N_alloc | apply Kd.R_drewN | apply Kd.S_drewN | apply Kd.N_drewN | apply Kd.R_drew | apply Kd.S_drew | apply Kd.N_drew));exact Kd.S_mono HO_11.out (fun _ hk => by first | exact hk | exact hk.2 | exact hk.1 | exact hk.2.1 | exact ⟨hk.1, hk.2.1⟩ | trivial)⟩, ⟨by (try simp only [hl483001_38]);(with_reducible repeat (first | apply Kd.R_alloc | apply Kd.S_alloc | apply Kd.N_alloc | apply Kd.R_drewN | apply Kd.S_drewN | apply Kd.N_drewN | apply Kd.R_drew | apply Kd.S_drew | apply Kd.N_drew));exact Kd.R_mono HO_483001.out (fun _ hk => trivial)⟩, ⟨by (try simp only [hl483001_38]);exact kP BK468.out⟩, ⟨by (try simp only [hl483001_38]);exact kP BK482.out⟩, ⟨by exact bB⟩⟩
      replace c72 := Bool.eq_false_iff.mpr c72
      subst c72
      rw [if_neg (show ¬ (false = true) by decide)] at H
      have H' := Aside0.mk H
      clear H
      obtain ⟨Ao75, co75, eo75⟩ := Kd.S_slice HO505.out
      subst eo75
      obtain ⟨Ao76, co76, eo76⟩ := Kd.N_slice HO_8.out
      subst eo76
      go_wp2_with (first | ((with_reducible refine gate_callee (f := 11) rfl ?_);refine goesL_ (some 91) rfl rfl Tryd.func11 (by kernel_rfl) rfl #[.slice Ao75 t503.length co75, .slice Ao76 t474.length co76] rfl mM ?_;(with_reducible refine (laws_eqIntSS.calls kj38 _ _ t503 _ _ t474 false _ ?side1 ?side2 ?side3 ?side4 A71.out).mono ?_);(case side1 => exact cP (Kd.S_reads' HO505.out).2.2);(case side2 => exact (Kd.S_reads' HO505.out).2.1);(case side3 => exact cP (Kd.N_reads' HO_8.out).2.2);(case side4 => exact (Kd.N_reads' HO_8.out).2.1);rintro e w' ⟨rfl, ⟨nd, rfl⟩⟩;refine ⟨_, rfl, ?_⟩))
      go_meet
      case rel => exact ⟨_, (true), eF, H', ⟨by have := HJ12.out;have := HJ38.out;first | omega | exact Nat.le_refl _⟩, ⟨by (try simp only [hl483001_38]);(with_reducible repeat (first | apply Kd.R_alloc | apply Kd.S_alloc | apply Kd.N_alloc | apply Kd.R_drewN | apply Kd.S_drewN | apply Kd.N_drewN | apply Kd.R_drew | apply Kd.S_drew | apply Kd.N_drew));exact Kd.S_mono HO_11.out (fun _ hk => by first | exact hk | exact hk.2 | exact hk.1 | exact hk.2.1 | exact ⟨hk.1, hk.2.1⟩ | trivial)⟩, ⟨by (try simp only [hl483001_38]);(with_reducible repeat (first | apply Kd.R_alloc | apply Kd.S_alloc | apply Kd.N_alloc | apply Kd.R_drewN | apply Kd.S_drewN | apply Kd.N_drewN | apply Kd.R_drew | apply Kd.S_drew | apply Kd.N_drew));exact Kd.R_mono HO_483001.out (fun _ hk => trivial)⟩, ⟨by (try simp only [hl483001_38]);exact kP BK468.out⟩, ⟨by (try simp only [hl483001_38]);exact kP BK482.out⟩, ⟨by exact bB⟩⟩
     case rest =>
      clear HC63
      try clear c1
      try clear c2
      try clear p2
      try clear c3
      try clear c4
      try clear c5
      try clear c5b0
      try clear c6
      try clear c7
      try clear c8
      try clear c9
      try clear c10
      try clear c11
      try clear c12
      try clear c13
      try clear c14
      try clear c15
      try clear c24
      try clear c29
      try clear c34
      try clear c37
      try clear c44
      try clear c47
      try clear c47b0
      try clear c49
      try clear c54
      try clear c57
      try clear c57b0
      try clear c60
      try clear c60b0
      try clear c60b1
      try clear c66
      try clear c72
      try clear hcz15_0
      try clear hcz15_1
      try clear hcz17_0
      try clear hcz17_1
      try clear hcz21_0
      try clear hcz21_1
      try clear hcz25_0
      try clear hcz25_1
      try clear hcz45_0
      try clear hcz45_1
      try clear hcz67_0
      try clear hcz67_1
      try clear hcz7_0
      try clear hcz7_1
      try clear hfz15_0
      try clear hfz15_1
      try clear hfz17_0
      try clear hfz17_1
      try clear hfz21_0
      try clear hfz21_1
      try clear hfz25_0
      try clear hfz25_1
      try clear hfz45_0
      try clear hfz45_1
      try clear hfz67_0
      try clear hfz67_1
      try clear hfz7_0
      try clear hfz7_1
      try clear p2
      obtain ⟨kq, x97_62, rfl, HA, HJ62, HO_11, HO_483001, BK468, BK482, HB⟩ := hcut
      have hl11_62 := (Kd.S_reads' HO_11.out).1
      rw [hl11_62] at HO_11
      (try simp only [hl11_62])
      (try simp only [hl11_62] at BK468)
      (try simp only [hl11_62] at BK482)
      (try simp only [hl11_62] at HO_483001)
      cases kq with
      | zero => exact absurd HA.out (by simp [laws_FnExactEternalFamily.j2])
      | succ kj62 =>
       have H := HA.out
       clear HA
       simp only [laws_FnExactEternalFamily.j2] at H
       by_cases c77 : x97_62 = true
       ·subst c77
        rw [if_pos rfl] at H
        obtain rfl := Option.some.inj H
        go_wp2
        go_ret
        exact ⟨eW, by exact bB⟩
       replace c77 := Bool.eq_false_iff.mpr c77
       subst c77
       rw [if_neg (show ¬ (false = true) by decide)] at H
       replace H := Option.bind_eq_some_iff.mp H
       obtain ⟨t508, A780, H⟩ := H
       try dsimp only at H
       have A78 := Aside0.mk A780
       clear A780
       by_cases c79 : t508 < 0
       ·rw [if_pos c79] at H
        have c79b0 : decide (t508 < 0) = true := decide_eq_true c79
        clear c79
        obtain rfl := Option.some.inj H
        go_wp2_with (first | ((with_reducible refine gate_callee (f := 15) rfl ?_);refine goesL_ (some 100) rfl rfl Tryd.func15 (by kernel_rfl) rfl #[.slice Ao64 t497.length co64, .int .i64 1] rfl mM ?_;(with_reducible refine (laws_heldIntSS.calls kj62 _ _ t497 1 t508 _ ?side1 ?side2 A78.out).mono ?_);(case side1 => exact cP (Kd.S_reads' HO_11.out).2.2);(case side2 => exact (Kd.S_reads' HO_11.out).2.1);rintro e w' ⟨rfl, ⟨nd, rfl⟩⟩;refine ⟨_, rfl, ?_⟩))
        go_ret
        exact ⟨eW, by exact bB⟩
       rw [if_neg c79] at H
       have c79b0 : decide (t508 < 0) = false := decide_eq_false c79
       clear c79
       by_cases c80 : t508 = t496
       rotate_left
       ·rw [if_neg c80] at H
        have c80b0 : (t508 == t496) = false := beq_eq_false_iff_ne.mpr c80
        have c80b1 : (t508 != t496) = true := bne_iff_ne.mpr c80
        obtain rfl := Option.some.inj H
        go_wp2_with (first | ((with_reducible refine gate_callee (f := 15) rfl ?_);refine goesL_ (some 100) rfl rfl Tryd.func15 (by kernel_rfl) rfl #[.slice Ao64 t497.length co64, .int .i64 1] rfl mM ?_;(with_reducible refine (laws_heldIntSS.calls kj62 _ _ t497 1 t508 _ ?side1 ?side2 A78.out).mono ?_);(case side1 => exact cP (Kd.S_reads' HO_11.out).2.2);(case side2 => exact (Kd.S_reads' HO_11.out).2.1);rintro e w' ⟨rfl, ⟨nd, rfl⟩⟩;refine ⟨_, rfl, ?_⟩))
        go_ret
        exact ⟨eW, by exact bB⟩
       rw [if_pos c80] at H
       have c80b0 : (t508 == t496) = true := beq_iff_eq.mpr c80
       have c80b1 : (t508 != t496) = false := bne_eq_false_iff_eq.mpr c80
       clear c80
       obtain rfl := Option.some.inj H
       go_wp2_with (first | ((with_reducible refine gate_callee (f := 15) rfl ?_);refine goesL_ (some 100) rfl rfl Tryd.func15 (by kernel_rfl) rfl #[.slice Ao64 t497.length co64, .int .i64 1] rfl mM ?_;(with_reducible refine (laws_heldIntSS.calls kj62 _ _ t497 1 t508 _ ?side1 ?side2 A78.out).mono ?_);(case side1 => exact cP (Kd.S_reads' HO_11.out).2.2);(case side2 => exact (Kd.S_reads' HO_11.out).2.1);rintro e w' ⟨rfl, ⟨nd, rfl⟩⟩;refine ⟨_, rfl, ?_⟩))
       go_ret
       exact ⟨eW, by exact bB⟩


end Go.Proofs.YtgahlimikndecaaDoor.QEternalFamily
