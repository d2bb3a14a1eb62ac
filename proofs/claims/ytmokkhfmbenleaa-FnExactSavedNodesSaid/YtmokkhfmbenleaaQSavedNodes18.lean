import Derived.Test.YtmokkhfmbenleaaQSavedNodes0
import Derived.Test.YtmokkhfmbenleaaQSavedNodes9
import Derived.Test.YtmokkhfmbenleaaQSavedNodes10
import Derived.Test.YtmokkhfmbenleaaQSavedNodes15
import Derived.Test.YtmokkhfmbenleaaQSavedNodes16
import Derived.Test.YtmokkhfmbenleaaQSavedNodes17
namespace Go.Proofs.Ytmokkhfmbenleaa.QSavedNodes
open Go.RowKit Go.Proofs.YtmokkhfmbenleaaW.PrintWords Go.Proofs.YtmokkhfmbenleaaW.PrintLast Go.Proofs.YtmokkhfmbenleaaW.PrintMore
attribute [local go_sem] max2_int min2_int max_two min_two max_three min_three max_four min_four   -- for this text's walks alone
set_option linter.unusedVariables false
set_option linter.unusedSimpArgs false
/-! ### laws_FnExactSavedNodes: function 3 -/
/-- Blocks of a row of rows: beyond some place, and of its own types. -/
def Mine9 (P : Nat → Prop) (W : World) (base : Nat) (E : List Nat) (k : Nat) : Prop := P k ∧ base ≤ k ∧ k < W.heap.size ∧ ∃ q, q ∈ E ∧ ∃ cells, W.heap[k]? = some (.cells cells q (0, 0))
theorem mine9 {α : Type} {d : Kd α} {e base : Nat} {ok : Nat → Prop} {w : World} {v : Value} {xs : List α} (h : Kd.S d e w base ok v xs) : Kd.S d e w base (Mine9 ok w base (e :: d.E)) v xs := Kd.S_bound h
theorem mine9_block {P : Nat → Prop} {W : World} {base g t : Nat} {E : List Nat} {cells : Array Value} (h : Mine9 P W base E g) (hb : W.heap[g]? = some (.cells cells t (0, 0))) (ht : ¬ t ∈ E) : False := by
 obtain ⟨_, _, _, q, hq, c, hc⟩ := h
 rw [hc] at hb
 simp only [Option.some.injEq, Obj.cells.injEq] at hb
 exact ht (hb.2.1 ▸ hq)
theorem mine9_R {α : Type} {d : Kd α} {e b base : Nat} {ok P : Nat → Prop} {W : World} {E : List Nat} {v : Value} {xs : List α} (h : Kd.R d e W b ok v xs) (hE : ∀ q ∈ e :: d.E, ¬ q ∈ E) : Kd.R d e W b (fun k => ¬ Mine9 P W base E k) v xs :=
 Kd.R_mono (Kd.R_bound h) (fun k hk hM => by obtain ⟨_, _, _, q, hq, c, hc⟩ := hk;exact mine9_block hM hc (hE q hq))
theorem mine9_old {W W1 : World} (hb : Below W.heap.size W W1) : ∃ P9_ : Nat → Prop, ∀ k, P9_ k ↔ W.heap.size ≤ k := ⟨_, fun _ => Iff.rfl⟩
mutual
def laws_FnExactSavedNodes.j0 : Nat → Int → Int → List (List Int) → List Int → Bool → List (List Int) → List Int → Bool → Bool → Int → List (S119) → Int → List (S119) → Option (Bool)
 | 0, _, _, _, _, _, _, _, _, _, _, _, _, _ => none
 | k + 1, x1, x2, x3, x10, x11, x13, x14, x15, x61, x330000, x330001, x348000, x348001 => if x61 = true then (some false) else ((laws_toGraph.f k x330000 x330001).bind fun bt356 => ((laws_eqGraph.f k x348000 x348001 bt356.1 bt356.2).bind fun t360 => (if t360 = true then ((laws_toIntSS.f k x3).bind fun t361 => ((laws_eqIntSS.f k x13 t361).bind fun t364 => (if t364 = true then ((laws_markGraph.f x348000 x348001 1).bind fun bt365 => ((laws_markIntSS.f k x13 bt365.1).bind fun bt367 => (if bt367.1 < 0 then (laws_FnExactSavedNodes.j1 k x1 x2 x3 x10 x11 x14 true x330000 x330001) else ((laws_eqIntS.f k x14 x10).bind fun t369 => (if t369 = true then (laws_FnExactSavedNodes.j1 k x1 x2 x3 x10 x11 x14 (x15 != x11) x330000 x330001) else (laws_FnExactSavedNodes.j1 k x1 x2 x3 x10 x11 x14 true x330000 x330001)))))) else (some false)))) else (some false))))
def laws_FnExactSavedNodes.j1 : Nat → Int → Int → List (List Int) → List Int → Bool → List Int → Bool → Int → List (S119) → Option (Bool)
 | 0, _, _, _, _, _, _, _, _, _ => none
 | k + 1, x1, x2, x3, x10, x11, x14, x90, x330000, x330001 => if x90 = true then (some false) else ((laws_markIntS.f k x14 1).bind fun bt370 => ((laws_heldIntS.f k bt370.2 1).bind fun t372 => (if t372 < 0 then (some false) else (if t372 = bt370.1 then ((laws_toGraph.f k x330000 x330001).bind fun bt373 => ((laws_toIntSS.f k x3).bind fun t377 => ((impl_SavedNodes.f k bt373.1 bt373.2 x1 x2 t377).bind fun bt380 => ((laws_eqIntS.f k bt380.1 x10).bind fun t384 => (if t384 = true then (laws_FnExactSavedNodes.j2 k bt370.2 bt370.1 (bt380.2 != x11)) else (laws_FnExactSavedNodes.j2 k bt370.2 bt370.1 true)))))) else (some false)))))
def laws_FnExactSavedNodes.j2 : Nat → List Int → Int → Bool → Option (Bool)
 | 0, _, _, _ => none
 | k + 1, x14, x17, x120 => if x120 = true then (some false) else ((laws_heldIntS.f k x14 1).bind fun t385 => (if t385 < 0 then (some false) else (if t385 = x17 then (some true) else (some false))))
end
def laws_FnExactSavedNodes.f (k : Nat) (a0_0 : Int) (l0_1 : List (S119)) (a1 : Int) (a2 : Int) (l3 : List (List Int)) : Option (Bool) := (laws_szGraph.f a0_0 l0_1 1048576).bind fun t330 => (if t330 < 0 then (some true) else ((laws_szIntSS.f k l3 t330).bind fun t331 => (if t331 < 0 then (some true) else ((laws_toGraph.f k a0_0 l0_1).bind fun bt332 => ((laws_toIntSS.f k l3).bind fun t336 => ((spec_SavedNodes.f k bt332.1 bt332.2 a1 a2 t336).bind fun bt339 => ((laws_toGraph.f k a0_0 l0_1).bind fun bt343 => ((laws_toIntSS.f k l3).bind fun t348 => ((impl_SavedNodes.f k bt343.1 bt343.2 a1 a2 t348).bind fun bt351 => ((laws_eqIntS.f k bt351.1 bt339.1).bind fun t355 => (if t355 = true then (laws_FnExactSavedNodes.j0 k a1 a2 l3 bt339.1 bt339.2 t348 bt351.1 bt351.2 (bt351.2 != bt339.2) a0_0 l0_1 bt343.1 bt343.2) else (laws_FnExactSavedNodes.j0 k a1 a2 l3 bt339.1 bt339.2 t348 bt351.1 bt351.2 true a0_0 l0_1 bt343.1 bt343.2))))))))))))
theorem laws_FnExactSavedNodes.mono_l : ∀ k, (∀ y0 y1 y2 y3 y4 y5 y6 y7 y8 y9 y10 y11 y12, LeO (laws_FnExactSavedNodes.j0 k y0 y1 y2 y3 y4 y5 y6 y7 y8 y9 y10 y11 y12) (laws_FnExactSavedNodes.j0 (k + 1) y0 y1 y2 y3 y4 y5 y6 y7 y8 y9 y10 y11 y12)) ∧ (∀ y0 y1 y2 y3 y4 y5 y6 y7 y8, LeO (laws_FnExactSavedNodes.j1 k y0 y1 y2 y3 y4 y5 y6 y7 y8) (laws_FnExactSavedNodes.j1 (k + 1) y0 y1 y2 y3 y4 y5 y6 y7 y8)) ∧ (∀ y0 y1 y2, LeO (laws_FnExactSavedNodes.j2 k y0 y1 y2) (laws_FnExactSavedNodes.j2 (k + 1) y0 y1 y2))
 | 0 => ⟨fun _ _ _ _ _ _ _ _ _ _ _ _ _ r h => by simp [laws_FnExactSavedNodes.j0] at h, fun _ _ _ _ _ _ _ _ _ r h => by simp [laws_FnExactSavedNodes.j1] at h, fun _ _ _ r h => by simp [laws_FnExactSavedNodes.j2] at h⟩
 | k + 1 => by
  obtain ⟨ih0, ih1, ih2⟩ := laws_FnExactSavedNodes.mono_l k
  refine ⟨?_, ?_, ?_⟩
  ·intro y0 y1 y2 y3 y4 y5 y6 y7 y8 y9 y10 y11 y12
   unfold laws_FnExactSavedNodes.j0
   repeat' first
   | (with_reducible exact ih0 _ _ _ _ _ _ _ _ _ _ _ _ _)
   | (with_reducible exact ih1 _ _ _ _ _ _ _ _ _)
   | (with_reducible exact ih2 _ _ _)
   | (with_reducible exact impl_SavedNodes.mono _ _ _ _ _ _)
   | (with_reducible exact laws_eqGraph.mono _ _ _ _ _)
   | (with_reducible exact laws_eqIntS.mono _ _ _)
   | (with_reducible exact laws_eqIntSS.mono _ _ _)
   | (with_reducible exact laws_heldIntS.mono _ _ _)
   | (with_reducible exact laws_markIntS.mono _ _ _)
   | (with_reducible exact laws_markIntSS.mono _ _ _)
   | (with_reducible exact laws_szIntSS.mono _ _ _)
   | (with_reducible exact laws_toGraph.mono _ _ _)
   | (with_reducible exact laws_toIntSS.mono _ _)
   | (with_reducible exact spec_SavedNodes.mono _ _ _ _ _ _)
   | (with_reducible exact LeO.refl _)
   | (with_reducible exact LeO.none _)
   | (with_reducible refine LeO.ite ?_ ?_)
   | (with_reducible refine LeO.bind ?_ (fun _ => ?_))
   | exact ih0 _ _ _ _ _ _ _ _ _ _ _ _ _
   | exact ih1 _ _ _ _ _ _ _ _ _
   | exact ih2 _ _ _
   | exact impl_SavedNodes.mono _ _ _ _ _ _
   | exact laws_eqGraph.mono _ _ _ _ _
   | exact laws_eqIntS.mono _ _ _
   | exact laws_eqIntSS.mono _ _ _
   | exact laws_heldIntS.mono _ _ _
   | exact laws_markIntS.mono _ _ _
   | exact laws_markIntSS.mono _ _ _
   | exact laws_szIntSS.mono _ _ _
   | exact laws_toGraph.mono _ _ _
   | exact laws_toIntSS.mono _ _
   | exact spec_SavedNodes.mono _ _ _ _ _ _
   | exact LeO.none _
   | refine LeO.ite ?_ ?_
   | refine LeO.bind ?_ (fun _ => ?_)
  ·intro y0 y1 y2 y3 y4 y5 y6 y7 y8
   unfold laws_FnExactSavedNodes.j1
   repeat' first
   | (with_reducible exact ih0 _ _ _ _ _ _ _ _ _ _ _ _ _)
   | (with_reducible exact ih1 _ _ _ _ _ _ _ _ _)
   | (with_reducible exact ih2 _ _ _)
   | (with_reducible exact impl_SavedNodes.mono _ _ _ _ _ _)
   | (with_reducible exact laws_eqGraph.mono _ _ _ _ _)
   | (with_reducible exact laws_eqIntS.mono _ _ _)
   | (with_reducible exact laws_eqIntSS.mono _ _ _)
   | (with_reducible exact laws_heldIntS.mono _ _ _)
   | (with_reducible exact laws_markIntS.mono _ _ _)
   | (with_reducible exact laws_markIntSS.mono _ _ _)
   | (with_reducible exact laws_szIntSS.mono _ _ _)
   | (with_reducible exact laws_toGraph.mono _ _ _)
   | (with_reducible exact laws_toIntSS.mono _ _)
   | (with_reducible exact spec_SavedNodes.mono _ _ _ _ _ _)
   | (with_reducible exact LeO.refl _)
   | (with_reducible exact LeO.none _)
   | (with_reducible refine LeO.ite ?_ ?_)
   | (with_reducible refine LeO.bind ?_ (fun _ => ?_))
   | exact ih0 _ _ _ _ _ _ _ _ _ _ _ _ _
   | exact ih1 _ _ _ _ _ _ _ _ _
   | exact ih2 _ _ _
   | exact impl_SavedNodes.mono _ _ _ _ _ _
   | exact laws_eqGraph.mono _ _ _ _ _
   | exact laws_eqIntS.mono _ _ _
   | exact laws_eqIntSS.mono _ _ _
   | exact laws_heldIntS.mono _ _ _
   | exact laws_markIntS.mono _ _ _
   | exact laws_markIntSS.mono _ _ _
   | exact laws_szIntSS.mono _ _ _
   | exact laws_toGraph.mono _ _ _
   | exact laws_toIntSS.mono _ _
   | exact spec_SavedNodes.mono _ _ _ _ _ _
   | exact LeO.none _
   | refine LeO.ite ?_ ?_
   | refine LeO.bind ?_ (fun _ => ?_)
  ·intro y0 y1 y2
   unfold laws_FnExactSavedNodes.j2
   repeat' first
   | (with_reducible exact ih0 _ _ _ _ _ _ _ _ _ _ _ _ _)
   | (with_reducible exact ih1 _ _ _ _ _ _ _ _ _)
   | (with_reducible exact ih2 _ _ _)
   | (with_reducible exact impl_SavedNodes.mono _ _ _ _ _ _)
   | (with_reducible exact laws_eqGraph.mono _ _ _ _ _)
   | (with_reducible exact laws_eqIntS.mono _ _ _)
   | (with_reducible exact laws_eqIntSS.mono _ _ _)
   | (with_reducible exact laws_heldIntS.mono _ _ _)
   | (with_reducible exact laws_markIntS.mono _ _ _)
   | (with_reducible exact laws_markIntSS.mono _ _ _)
   | (with_reducible exact laws_szIntSS.mono _ _ _)
   | (with_reducible exact laws_toGraph.mono _ _ _)
   | (with_reducible exact laws_toIntSS.mono _ _)
   | (with_reducible exact spec_SavedNodes.mono _ _ _ _ _ _)
   | (with_reducible exact LeO.refl _)
   | (with_reducible exact LeO.none _)
   | (with_reducible refine LeO.ite ?_ ?_)
   | (with_reducible refine LeO.bind ?_ (fun _ => ?_))
   | exact ih0 _ _ _ _ _ _ _ _ _ _ _ _ _
   | exact ih1 _ _ _ _ _ _ _ _ _
   | exact ih2 _ _ _
   | exact impl_SavedNodes.mono _ _ _ _ _ _
   | exact laws_eqGraph.mono _ _ _ _ _
   | exact laws_eqIntS.mono _ _ _
   | exact laws_eqIntSS.mono _ _ _
   | exact laws_heldIntS.mono _ _ _
   | exact laws_markIntS.mono _ _ _
   | exact laws_markIntSS.mono _ _ _
   | exact laws_szIntSS.mono _ _ _
   | exact laws_toGraph.mono _ _ _
   | exact laws_toIntSS.mono _ _
   | exact spec_SavedNodes.mono _ _ _ _ _ _
   | exact LeO.none _
   | refine LeO.ite ?_ ?_
   | refine LeO.bind ?_ (fun _ => ?_)
theorem laws_FnExactSavedNodes.mono : ∀ a0 a1 a2 a3 a4 k, LeO (laws_FnExactSavedNodes.f k a0 a1 a2 a3 a4) (laws_FnExactSavedNodes.f (k + 1) a0 a1 a2 a3 a4) := by
 intro a0 a1 a2 a3 a4 k
 obtain ⟨ih0, ih1, ih2⟩ := laws_FnExactSavedNodes.mono_l k
 unfold laws_FnExactSavedNodes.f
 repeat' first
   | (with_reducible exact ih0 _ _ _ _ _ _ _ _ _ _ _ _ _)
   | (with_reducible exact ih1 _ _ _ _ _ _ _ _ _)
   | (with_reducible exact ih2 _ _ _)
   | (with_reducible exact impl_SavedNodes.mono _ _ _ _ _ _)
   | (with_reducible exact laws_eqGraph.mono _ _ _ _ _)
   | (with_reducible exact laws_eqIntS.mono _ _ _)
   | (with_reducible exact laws_eqIntSS.mono _ _ _)
   | (with_reducible exact laws_heldIntS.mono _ _ _)
   | (with_reducible exact laws_markIntS.mono _ _ _)
   | (with_reducible exact laws_markIntSS.mono _ _ _)
   | (with_reducible exact laws_szIntSS.mono _ _ _)
   | (with_reducible exact laws_toGraph.mono _ _ _)
   | (with_reducible exact laws_toIntSS.mono _ _)
   | (with_reducible exact spec_SavedNodes.mono _ _ _ _ _ _)
   | (with_reducible exact LeO.refl _)
   | (with_reducible exact LeO.none _)
   | (with_reducible refine LeO.ite ?_ ?_)
   | (with_reducible refine LeO.bind ?_ (fun _ => ?_))
   | exact ih0 _ _ _ _ _ _ _ _ _ _ _ _ _
   | exact ih1 _ _ _ _ _ _ _ _ _
   | exact ih2 _ _ _
   | exact impl_SavedNodes.mono _ _ _ _ _ _
   | exact laws_eqGraph.mono _ _ _ _ _
   | exact laws_eqIntS.mono _ _ _
   | exact laws_eqIntSS.mono _ _ _
   | exact laws_heldIntS.mono _ _ _
   | exact laws_markIntS.mono _ _ _
   | exact laws_markIntSS.mono _ _ _
   | exact laws_szIntSS.mono _ _ _
   | exact laws_toGraph.mono _ _ _
   | exact laws_toIntSS.mono _ _
   | exact spec_SavedNodes.mono _ _ _ _ _ _
   | exact LeO.none _
   | refine LeO.ite ?_ ?_
   | refine LeO.bind ?_ (fun _ => ?_)
set_option maxHeartbeats 8000000 in
set_option maxRecDepth 100000 in
theorem laws_FnExactSavedNodes.calls (k : Nat) (a0_0 : Int) (A0_1 : Option Addr) (c0_1 : Nat) (l0_1 : List (S119)) (a1 : Int) (a2 : Int) (A3 : Option Addr) (c3 : Nat) (l3 : List (List Int)) (r : Bool) (w : World) (hr0_1 : Kd.C k119 w A0_1 l0_1.length l0_1) (hc0_1 : l0_1.length ≤ c0_1) (hr3 : Kd.C (Kd.slice 3 (Kd.int .i64)) w A3 l3.length l3) (hc3 : l3.length ≤ c3) (h : laws_FnExactSavedNodes.f k a0_0 l0_1 a1 a2 l3 = some r) :
  Calls Try.prog 3 #[.agg #[.int .i64 a0_0, .slice A0_1 l0_1.length c0_1], .int .i64 a1, .int .i64 a2, .slice A3 l3.length c3] w fun e w' => e = .returned (.bool r) ∧ Below w.heap.size w w' := by
 have hu24 := Try.underlying24
 have hu31 := Try.underlying31
 have HR0_1 := Aside0.mk hr0_1
 have HC0_1 := Aside0.mk hc0_1
 clear hr0_1 hc0_1
 have HR3 := Aside0.mk hr3
 have HC3 := Aside0.mk hc3
 clear hr3 hc3
 have HB := Aside0.mk (Below.refl w.heap.size w)
 have H : ((laws_szGraph.f a0_0 l0_1 1048576).bind fun t330 => (if t330 < 0 then (some true) else ((laws_szIntSS.f k l3 t330).bind fun t331 => (if t331 < 0 then (some true) else ((laws_toGraph.f k a0_0 l0_1).bind fun bt332 => ((laws_toIntSS.f k l3).bind fun t336 => ((spec_SavedNodes.f k bt332.1 bt332.2 a1 a2 t336).bind fun bt339 => ((laws_toGraph.f k a0_0 l0_1).bind fun bt343 => ((laws_toIntSS.f k l3).bind fun t348 => ((impl_SavedNodes.f k bt343.1 bt343.2 a1 a2 t348).bind fun bt351 => ((laws_eqIntS.f k bt351.1 bt339.1).bind fun t355 => (if t355 = true then (laws_FnExactSavedNodes.j0 k a1 a2 l3 bt339.1 bt339.2 t348 bt351.1 bt351.2 (bt351.2 != bt339.2) a0_0 l0_1 bt343.1 bt343.2) else (laws_FnExactSavedNodes.j0 k a1 a2 l3 bt339.1 bt339.2 t348 bt351.1 bt351.2 true a0_0 l0_1 bt343.1 bt343.2))))))))))))) = some r := h
 clear h
 replace H := Option.bind_eq_some_iff.mp H
 obtain ⟨t330, A50, H⟩ := H
 replace H : (if t330 < 0 then (some true) else ((laws_szIntSS.f k l3 t330).bind fun t331 => (if t331 < 0 then (some true) else ((laws_toGraph.f k a0_0 l0_1).bind fun bt332 => ((laws_toIntSS.f k l3).bind fun t336 => ((spec_SavedNodes.f k bt332.1 bt332.2 a1 a2 t336).bind fun bt339 => ((laws_toGraph.f k a0_0 l0_1).bind fun bt343 => ((laws_toIntSS.f k l3).bind fun t348 => ((impl_SavedNodes.f k bt343.1 bt343.2 a1 a2 t348).bind fun bt351 => ((laws_eqIntS.f k bt351.1 bt339.1).bind fun t355 => (if t355 = true then (laws_FnExactSavedNodes.j0 k a1 a2 l3 bt339.1 bt339.2 t348 bt351.1 bt351.2 (bt351.2 != bt339.2) a0_0 l0_1 bt343.1 bt343.2) else (laws_FnExactSavedNodes.j0 k a1 a2 l3 bt339.1 bt339.2 t348 bt351.1 bt351.2 true a0_0 l0_1 bt343.1 bt343.2)))))))))))) = some r := H
 have A5 := Aside0.mk A50
 clear A50
 by_cases c6 : t330 < 0
 ·rw [if_pos c6] at H
  have c6b0 : decide (t330 < 0) = true := decide_eq_true c6
  clear c6
  obtain rfl := Option.some.inj H
  go_enter Try.func3, Try.ntmps3
  go_wp2_with (first | ((with_reducible refine gate_dst (N := 4) rfl ?_);refine box_event ?hg (N := 4) ?hd (cs := #[.int .i64 a0_0, .slice A0_1 l0_1.length c0_1]) (t := 24) ?hr ?_;(case hd => rfl);(case hg => rfl);(case hr => first | (go_simp;done) | (go_simp;rfl));intro gb329 hg w7 hbox hb;have n0_ := Aside0.mk (below_step (by exact bB) hb);have n1_ := Aside0.mk (hbox);have n2_ := Aside0.mk ((by rw [hg];exact (below_size (by exact bB)) : w.heap.size ≤ gb329));have n3_ := Aside0.mk ((by rw [hg];exact (below_size (by exact bB)) : w.heap.size ≤ gb329));clear HB;have HB := n0_;have BK329 := n1_;have GW329 := n2_;have GE329 := n3_;clear n0_ n1_ n2_ n3_;clear hb hbox hg;have hcz8_0 : w7.cell? ⟨gb329, 0, none⟩ = some (.int .i64 a0_0) := (blk_cell BK329.out 0).trans rfl;have hcz8_1 : w7.cell? ⟨gb329, 1, none⟩ = some (.slice A0_1 l0_1.length c0_1) := (blk_cell BK329.out 1).trans rfl;have hfz8_0 := blk_frozen BK329.out 0;have hfz8_1 := blk_frozen BK329.out 1) | ((with_reducible refine gate_callee (f := 11) rfl ?_);refine goesL_ (some 23) rfl rfl Try.func11 (by kernel_rfl) rfl #[.agg #[.int .i64 a0_0, .slice A0_1 l0_1.length c0_1], .int .i64 1048576] rfl mM ?_;(with_reducible refine (laws_szGraph.calls a0_0 _ _ l0_1 1048576 t330 _ ?side1 ?side2 A5.out).mono ?_);(case side1 => exact cP (Kd.C_below HR0_1.out HB.out));(case side2 => exact HC0_1.out);rintro e w9 ⟨rfl, hb⟩;refine ⟨_, rfl, ?_⟩;have n0_ := Aside0.mk (blk_below (g := gb329) (o := .cells #[.int .i64 a0_0, .slice A0_1 l0_1.length c0_1] 24 (0, 0)) (by exact kP BK329.out) hb);have n1_ := Aside0.mk (below_step (by exact bB) hb);clear BK329;clear HB;have BK329 := n0_;have HB := n1_;clear n0_ n1_;(try clear hb);(try clear hb2);(try clear hk);(try clear hi)))
  go_ret
  exact ⟨by first | rfl | (simp [errW_none, errW_some] <;> rfl) | (simp [*, errW_none, errW_some] <;> rfl), by exact bB⟩
 ·rw [if_neg c6] at H
  have c6b0 : decide (t330 < 0) = false := decide_eq_false c6
  clear c6
  replace H := Option.bind_eq_some_iff.mp H
  obtain ⟨t331, A100, H⟩ := H
  replace H : (if t331 < 0 then (some true) else ((laws_toGraph.f k a0_0 l0_1).bind fun bt332 => ((laws_toIntSS.f k l3).bind fun t336 => ((spec_SavedNodes.f k bt332.1 bt332.2 a1 a2 t336).bind fun bt339 => ((laws_toGraph.f k a0_0 l0_1).bind fun bt343 => ((laws_toIntSS.f k l3).bind fun t348 => ((impl_SavedNodes.f k bt343.1 bt343.2 a1 a2 t348).bind fun bt351 => ((laws_eqIntS.f k bt351.1 bt339.1).bind fun t355 => (if t355 = true then (laws_FnExactSavedNodes.j0 k a1 a2 l3 bt339.1 bt339.2 t348 bt351.1 bt351.2 (bt351.2 != bt339.2) a0_0 l0_1 bt343.1 bt343.2) else (laws_FnExactSavedNodes.j0 k a1 a2 l3 bt339.1 bt339.2 t348 bt351.1 bt351.2 true a0_0 l0_1 bt343.1 bt343.2)))))))))) = some r := H
  have A10 := Aside0.mk A100
  clear A100
  by_cases c11 : t331 < 0
  ·rw [if_pos c11] at H
   have c11b0 : decide (t331 < 0) = true := decide_eq_true c11
   clear c11
   obtain rfl := Option.some.inj H
   go_enter Try.func3, Try.ntmps3
   go_wp2_with (first | ((with_reducible refine gate_dst (N := 4) rfl ?_);refine box_event ?hg (N := 4) ?hd (cs := #[.int .i64 a0_0, .slice A0_1 l0_1.length c0_1]) (t := 24) ?hr ?_;(case hd => rfl);(case hg => rfl);(case hr => first | (go_simp;done) | (go_simp;rfl));intro gb329 hg w12 hbox hb;have n0_ := Aside0.mk (below_step (by exact bB) hb);have n1_ := Aside0.mk (hbox);have n2_ := Aside0.mk ((by rw [hg];exact (below_size (by exact bB)) : w.heap.size ≤ gb329));have n3_ := Aside0.mk ((by rw [hg];exact (below_size (by exact bB)) : w.heap.size ≤ gb329));clear HB;have HB := n0_;have BK329 := n1_;have GW329 := n2_;have GE329 := n3_;clear n0_ n1_ n2_ n3_;clear hb hbox hg;have hcz13_0 : w12.cell? ⟨gb329, 0, none⟩ = some (.int .i64 a0_0) := (blk_cell BK329.out 0).trans rfl;have hcz13_1 : w12.cell? ⟨gb329, 1, none⟩ = some (.slice A0_1 l0_1.length c0_1) := (blk_cell BK329.out 1).trans rfl;have hfz13_0 := blk_frozen BK329.out 0;have hfz13_1 := blk_frozen BK329.out 1) | ((with_reducible refine gate_callee (f := 11) rfl ?_);refine goesL_ (some 23) rfl rfl Try.func11 (by kernel_rfl) rfl #[.agg #[.int .i64 a0_0, .slice A0_1 l0_1.length c0_1], .int .i64 1048576] rfl mM ?_;(with_reducible refine (laws_szGraph.calls a0_0 _ _ l0_1 1048576 t330 _ ?side1 ?side2 A5.out).mono ?_);(case side1 => exact cP (Kd.C_below HR0_1.out HB.out));(case side2 => exact HC0_1.out);rintro e w14 ⟨rfl, hb⟩;refine ⟨_, rfl, ?_⟩;have n0_ := Aside0.mk (blk_below (g := gb329) (o := .cells #[.int .i64 a0_0, .slice A0_1 l0_1.length c0_1] 24 (0, 0)) (by exact kP BK329.out) hb);have n1_ := Aside0.mk (below_step (by exact bB) hb);clear BK329;clear HB;have BK329 := n0_;have HB := n1_;clear n0_ n1_;(try clear hb);(try clear hb2);(try clear hk);(try clear hi)) | ((with_reducible refine gate_callee (f := 12) rfl ?_);refine goesL_ (some 28) rfl rfl Try.func12 (by kernel_rfl) rfl #[.slice A3 l3.length c3, .int .i64 t330] rfl mM ?_;(with_reducible refine (laws_szIntSS.calls k _ _ l3 t330 t331 _ ?side1 ?side2 A10.out).mono ?_);(case side1 => exact cP (Kd.C_below HR3.out HB.out));(case side2 => exact HC3.out);rintro e w' ⟨rfl, ⟨nd, rfl⟩⟩;refine ⟨_, rfl, ?_⟩))
   go_ret
   exact ⟨by first | rfl | (simp [errW_none, errW_some] <;> rfl) | (simp [*, errW_none, errW_some] <;> rfl), by exact bB⟩
  ·rw [if_neg c11] at H
   have c11b0 : decide (t331 < 0) = false := decide_eq_false c11
   clear c11
   replace H := Option.bind_eq_some_iff.mp H
   obtain ⟨⟨t332, t333⟩, A150, H⟩ := H
   replace H : ((laws_toIntSS.f k l3).bind fun t336 => ((spec_SavedNodes.f k t332 t333 a1 a2 t336).bind fun bt339 => ((laws_toGraph.f k a0_0 l0_1).bind fun bt343 => ((laws_toIntSS.f k l3).bind fun t348 => ((impl_SavedNodes.f k bt343.1 bt343.2 a1 a2 t348).bind fun bt351 => ((laws_eqIntS.f k bt351.1 bt339.1).bind fun t355 => (if t355 = true then (laws_FnExactSavedNodes.j0 k a1 a2 l3 bt339.1 bt339.2 t348 bt351.1 bt351.2 (bt351.2 != bt339.2) a0_0 l0_1 bt343.1 bt343.2) else (laws_FnExactSavedNodes.j0 k a1 a2 l3 bt339.1 bt339.2 t348 bt351.1 bt351.2 true a0_0 l0_1 bt343.1 bt343.2)))))))) = some r := H
   have A15 := Aside0.mk A150
   clear A150
   replace H := Option.bind_eq_some_iff.mp H
   obtain ⟨t336, A160, H⟩ := H
   replace H : ((spec_SavedNodes.f k t332 t333 a1 a2 t336).bind fun bt339 => ((laws_toGraph.f k a0_0 l0_1).bind fun bt343 => ((laws_toIntSS.f k l3).bind fun t348 => ((impl_SavedNodes.f k bt343.1 bt343.2 a1 a2 t348).bind fun bt351 => ((laws_eqIntS.f k bt351.1 bt339.1).bind fun t355 => (if t355 = true then (laws_FnExactSavedNodes.j0 k a1 a2 l3 bt339.1 bt339.2 t348 bt351.1 bt351.2 (bt351.2 != bt339.2) a0_0 l0_1 bt343.1 bt343.2) else (laws_FnExactSavedNodes.j0 k a1 a2 l3 bt339.1 bt339.2 t348 bt351.1 bt351.2 true a0_0 l0_1 bt343.1 bt343.2))))))) = some r := H
   have A16 := Aside0.mk A160
   clear A160
   replace H := Option.bind_eq_some_iff.mp H
   obtain ⟨⟨t339, t342⟩, A170, H⟩ := H
   replace H : ((laws_toGraph.f k a0_0 l0_1).bind fun bt343 => ((laws_toIntSS.f k l3).bind fun t348 => ((impl_SavedNodes.f k bt343.1 bt343.2 a1 a2 t348).bind fun bt351 => ((laws_eqIntS.f k bt351.1 t339).bind fun t355 => (if t355 = true then (laws_FnExactSavedNodes.j0 k a1 a2 l3 t339 t342 t348 bt351.1 bt351.2 (bt351.2 != t342) a0_0 l0_1 bt343.1 bt343.2) else (laws_FnExactSavedNodes.j0 k a1 a2 l3 t339 t342 t348 bt351.1 bt351.2 true a0_0 l0_1 bt343.1 bt343.2)))))) = some r := H
   have A17 := Aside0.mk A170
   clear A170
   replace H := Option.bind_eq_some_iff.mp H
   obtain ⟨⟨t343, t344⟩, A180, H⟩ := H
   replace H : ((laws_toIntSS.f k l3).bind fun t348 => ((impl_SavedNodes.f k t343 t344 a1 a2 t348).bind fun bt351 => ((laws_eqIntS.f k bt351.1 t339).bind fun t355 => (if t355 = true then (laws_FnExactSavedNodes.j0 k a1 a2 l3 t339 t342 t348 bt351.1 bt351.2 (bt351.2 != t342) a0_0 l0_1 t343 t344) else (laws_FnExactSavedNodes.j0 k a1 a2 l3 t339 t342 t348 bt351.1 bt351.2 true a0_0 l0_1 t343 t344))))) = some r := H
   have A18 := Aside0.mk A180
   clear A180
   replace H := Option.bind_eq_some_iff.mp H
   obtain ⟨t348, A190, H⟩ := H
   replace H : ((impl_SavedNodes.f k t343 t344 a1 a2 t348).bind fun bt351 => ((laws_eqIntS.f k bt351.1 t339).bind fun t355 => (if t355 = true then (laws_FnExactSavedNodes.j0 k a1 a2 l3 t339 t342 t348 bt351.1 bt351.2 (bt351.2 != t342) a0_0 l0_1 t343 t344) else (laws_FnExactSavedNodes.j0 k a1 a2 l3 t339 t342 t348 bt351.1 bt351.2 true a0_0 l0_1 t343 t344)))) = some r := H
   have A19 := Aside0.mk A190
   clear A190
   replace H := Option.bind_eq_some_iff.mp H
   obtain ⟨⟨t351, t354⟩, A200, H⟩ := H
   replace H : ((laws_eqIntS.f k t351 t339).bind fun t355 => (if t355 = true then (laws_FnExactSavedNodes.j0 k a1 a2 l3 t339 t342 t348 t351 t354 (t354 != t342) a0_0 l0_1 t343 t344) else (laws_FnExactSavedNodes.j0 k a1 a2 l3 t339 t342 t348 t351 t354 true a0_0 l0_1 t343 t344))) = some r := H
   have A20 := Aside0.mk A200
   clear A200
   have HC21 := Aside0.mk H
   clear H
   go_enter Try.func3, Try.ntmps3
   go_upto_region 12 with (first | ((with_reducible refine gate_dst (N := 4) rfl ?_);refine box_event ?hg (N := 4) ?hd (cs := #[.int .i64 a0_0, .slice A0_1 l0_1.length c0_1]) (t := 24) ?hr ?_;(case hd => rfl);(case hg => rfl);(case hr => first | (go_simp;done) | (go_simp;rfl));intro gb329 hg w22 hbox hb;have n0_ := Aside0.mk (below_step (by exact bB) hb);have n1_ := Aside0.mk (hbox);have n2_ := Aside0.mk ((by rw [hg];exact (below_size (by exact bB)) : w.heap.size ≤ gb329));have n3_ := Aside0.mk ((by rw [hg];exact (below_size (by exact bB)) : w.heap.size ≤ gb329));clear HB;have HB := n0_;have BK329 := n1_;have GW329 := n2_;have GE329 := n3_;clear n0_ n1_ n2_ n3_;clear hb hbox hg;have hcz23_0 : w22.cell? ⟨gb329, 0, none⟩ = some (.int .i64 a0_0) := (blk_cell BK329.out 0).trans rfl;have hcz23_1 : w22.cell? ⟨gb329, 1, none⟩ = some (.slice A0_1 l0_1.length c0_1) := (blk_cell BK329.out 1).trans rfl;have hfz23_0 := blk_frozen BK329.out 0;have hfz23_1 := blk_frozen BK329.out 1) | ((with_reducible refine gate_callee (f := 11) rfl ?_);refine goesL_ (some 23) rfl rfl Try.func11 (by kernel_rfl) rfl #[.agg #[.int .i64 a0_0, .slice A0_1 l0_1.length c0_1], .int .i64 1048576] rfl mM ?_;(with_reducible refine (laws_szGraph.calls a0_0 _ _ l0_1 1048576 t330 _ ?side1 ?side2 A5.out).mono ?_);(case side1 => exact cP (Kd.C_below HR0_1.out HB.out));(case side2 => exact HC0_1.out);rintro e w24 ⟨rfl, hb⟩;refine ⟨_, rfl, ?_⟩;have n0_ := Aside0.mk (blk_below (g := gb329) (o := .cells #[.int .i64 a0_0, .slice A0_1 l0_1.length c0_1] 24 (0, 0)) (by exact kP BK329.out) hb);have n1_ := Aside0.mk (below_step (by exact bB) hb);clear BK329;clear HB;have BK329 := n0_;have HB := n1_;clear n0_ n1_;(try clear hb);(try clear hb2);(try clear hk);(try clear hi)) | ((with_reducible refine gate_callee (f := 12) rfl ?_);refine goesL_ (some 28) rfl rfl Try.func12 (by kernel_rfl) rfl #[.slice A3 l3.length c3, .int .i64 t330] rfl mM ?_;(with_reducible refine (laws_szIntSS.calls k _ _ l3 t330 t331 _ ?side1 ?side2 A10.out).mono ?_);(case side1 => exact cP (Kd.C_below HR3.out HB.out));(case side2 => exact HC3.out);rintro e w' ⟨rfl, ⟨nd, rfl⟩⟩;refine ⟨_, rfl, ?_⟩;(try (rw [drewN_self w24];generalize hq_ : World.drewN w24 _ = w24;have n0_ : Aside0 (w24.heap[gb329]? = some (.cells #[.int .i64 a0_0, .slice A0_1 l0_1.length c0_1] 24 (0, 0))) := ⟨by rw [← hq_];exact (by exact kP BK329.out)⟩;have n1_ : Aside0 (Below w.heap.size w w24) := ⟨by rw [← hq_];exact (by exact bB)⟩;clear BK329 HB hq_;have BK329 := n0_;have HB := n1_;clear n0_ n1_));have hcz25_0 : w24.cell? ⟨gb329, 0, none⟩ = some (.int .i64 a0_0) := (blk_cell BK329.out 0).trans rfl;have hcz25_1 : w24.cell? ⟨gb329, 1, none⟩ = some (.slice A0_1 l0_1.length c0_1) := (blk_cell BK329.out 1).trans rfl;have hfz25_0 := blk_frozen BK329.out 0;have hfz25_1 := blk_frozen BK329.out 1) | ((with_reducible refine gate_callee (f := 14) rfl ?_);refine goesL_ (some 33) rfl rfl Try.func14 (by kernel_rfl) rfl #[.agg #[.int .i64 a0_0, .slice A0_1 l0_1.length c0_1]] rfl mM ?_;(with_reducible refine (laws_toGraph.calls k a0_0 _ _ l0_1 t332 t333 _ ?side1 ?side2 A15.out).mono ?_);(case side1 => exact cP (Kd.C_below HR0_1.out HB.out));(case side2 => exact HC0_1.out);rintro e w26 ⟨v334, rfl, ho0, hb⟩;refine ⟨_, rfl, ?_⟩;have n0_ := Aside0.mk (Kd.R_lower ho0 (below_size (by exact bB)));have n1_ := Aside0.mk (blk_below (g := gb329) (o := .cells #[.int .i64 a0_0, .slice A0_1 l0_1.length c0_1] 24 (0, 0)) (by exact kP BK329.out) hb);have n2_ := Aside0.mk (below_step (by exact bB) hb);clear BK329;clear HB;have HO335 := n0_;have BK329 := n1_;have HB := n2_;clear n0_ n1_ n2_;(try clear hb);(try clear hb2);(try clear hk);(try clear hi);(try clear ho0)) | ((with_reducible refine gate_callee (f := 15) rfl ?_);refine goesL_ (some 37) rfl rfl Try.func15 (by kernel_rfl) rfl #[.slice A3 l3.length c3] rfl mM ?_;(with_reducible refine (laws_toIntSS.calls k _ _ l3 t336 _ ?side1 ?side2 A16.out).mono ?_);(case side1 => exact cP (Kd.C_below HR3.out HB.out));(case side2 => exact HC3.out);rintro e w27 ⟨v337, rfl, ho0, hb⟩;refine ⟨_, rfl, ?_⟩;have n0_ := Aside0.mk (Kd.R_below (by (with_reducible repeat (first | apply Kd.R_alloc | apply Kd.S_alloc | apply Kd.N_alloc | apply Kd.R_drewN | apply Kd.S_drewN | apply Kd.N_drewN | apply Kd.R_drew | apply Kd.S_drew | apply Kd.N_drew));exact HO335.out) hb);have n1_ := Aside0.mk (Kd.S_lower ho0 (below_size (by exact bB)));have n2_ := Aside0.mk (blk_below (g := gb329) (o := .cells #[.int .i64 a0_0, .slice A0_1 l0_1.length c0_1] 24 (0, 0)) (by exact kP BK329.out) hb);have n3_ := Aside0.mk (below_step (by exact bB) hb);clear HO335;clear BK329;clear HB;have HO335 := n0_;have HO338 := n1_;have BK329 := n2_;have HB := n3_;clear n0_ n1_ n2_ n3_;(try clear hb);(try clear hb2);(try clear hk);(try clear hi);(try clear ho0);obtain ⟨Ao28, co28, eo28⟩ := Kd.R_slice HO335.out;subst eo28;obtain ⟨Ao29, co29, eo29⟩ := Kd.S_slice HO338.out;subst eo29) | ((with_reducible refine gate_callee (f := 13) rfl ?_);refine goesL_ (some 38) rfl rfl Try.func13 (by kernel_rfl) rfl #[.agg #[.int .i64 t332, .slice Ao28 t333.length co28], .int .i64 a1, .int .i64 a2, .slice Ao29 t336.length co29] rfl mM ?_;(with_reducible refine (spec_SavedNodes.calls k t332 _ _ t333 a1 a2 _ _ t336 t339 t342 _ ?side1 ?side2 ?side3 ?side4 A17.out).mono ?_);(case side1 => exact cP (Kd.R_reads' HO335.out).2.2);(case side2 => exact (Kd.R_reads' HO335.out).2.1);(case side3 => exact cP (Kd.S_reads' HO338.out).2.2);(case side4 => exact (Kd.S_reads' HO338.out).2.1);rintro e w30 ⟨v340, rfl, ho0, hb⟩;refine ⟨_, rfl, ?_⟩;have n0_ := Aside0.mk (Kd.R_below (by (with_reducible repeat (first | apply Kd.R_alloc | apply Kd.S_alloc | apply Kd.N_alloc | apply Kd.R_drewN | apply Kd.S_drewN | apply Kd.N_drewN | apply Kd.R_drew | apply Kd.S_drew | apply Kd.N_drew));exact HO335.out) hb);have n1_ := Aside0.mk (Kd.S_below (by (with_reducible repeat (first | apply Kd.R_alloc | apply Kd.S_alloc | apply Kd.N_alloc | apply Kd.R_drewN | apply Kd.S_drewN | apply Kd.N_drewN | apply Kd.R_drew | apply Kd.S_drew | apply Kd.N_drew));exact HO338.out) hb);have n2_ := Aside0.mk (Kd.R_lower ho0 (below_size (by exact bB)));have n3_ := Aside0.mk (blk_below (g := gb329) (o := .cells #[.int .i64 a0_0, .slice A0_1 l0_1.length c0_1] 24 (0, 0)) (by exact kP BK329.out) hb);have n4_ := Aside0.mk (below_step (by exact bB) hb);clear HO335;clear HO338;clear BK329;clear HB;have HO335 := n0_;have HO338 := n1_;have HO341 := n2_;have BK329 := n3_;have HB := n4_;clear n0_ n1_ n2_ n3_ n4_;(try clear hb);(try clear hb2);(try clear hk);(try clear hi);(try clear ho0);have hcz31_0 : w30.cell? ⟨gb329, 0, none⟩ = some (.int .i64 a0_0) := (blk_cell BK329.out 0).trans rfl;have hcz31_1 : w30.cell? ⟨gb329, 1, none⟩ = some (.slice A0_1 l0_1.length c0_1) := (blk_cell BK329.out 1).trans rfl;have hfz31_0 := blk_frozen BK329.out 0;have hfz31_1 := blk_frozen BK329.out 1) | ((with_reducible refine gate_callee (f := 14) rfl ?_);refine goesL_ (some 42) rfl rfl Try.func14 (by kernel_rfl) rfl #[.agg #[.int .i64 a0_0, .slice A0_1 l0_1.length c0_1]] rfl mM ?_;(with_reducible refine (laws_toGraph.calls k a0_0 _ _ l0_1 t343 t344 _ ?side1 ?side2 A18.out).mono ?_);(case side1 => exact cP (Kd.C_below HR0_1.out HB.out));(case side2 => exact HC0_1.out);rintro e w32 ⟨v345, rfl, ho0, hb⟩;refine ⟨_, rfl, ?_⟩;have n0_ := Aside0.mk (Kd.R_elder' (by (with_reducible repeat (first | apply Kd.R_alloc | apply Kd.S_alloc | apply Kd.N_alloc | apply Kd.R_drewN | apply Kd.S_drewN | apply Kd.N_drewN | apply Kd.R_drew | apply Kd.S_drew | apply Kd.N_drew));exact HO335.out) (Kd.R_base ho0) hb);have n1_ := Aside0.mk (Kd.S_below (by (with_reducible repeat (first | apply Kd.R_alloc | apply Kd.S_alloc | apply Kd.N_alloc | apply Kd.R_drewN | apply Kd.S_drewN | apply Kd.N_drewN | apply Kd.R_drew | apply Kd.S_drew | apply Kd.N_drew));exact HO338.out) hb);have n2_ := Aside0.mk (Kd.R_elder' (by (with_reducible repeat (first | apply Kd.R_alloc | apply Kd.S_alloc | apply Kd.N_alloc | apply Kd.R_drewN | apply Kd.S_drewN | apply Kd.N_drewN | apply Kd.R_drew | apply Kd.S_drew | apply Kd.N_drew));exact HO341.out) (Kd.R_base ho0) hb);have n3_ := Aside0.mk (Kd.R_lower (Kd.R_new' ho0 (Kd.R_lt (by (with_reducible repeat (first | apply Kd.R_alloc | apply Kd.S_alloc | apply Kd.N_alloc | apply Kd.R_drewN | apply Kd.S_drewN | apply Kd.N_drewN | apply Kd.R_drew | apply Kd.S_drew | apply Kd.N_drew));exact HO335.out))) (below_size (by exact bB)));have n4_ := Aside0.mk (blk_below (g := gb329) (o := .cells #[.int .i64 a0_0, .slice A0_1 l0_1.length c0_1] 24 (0, 0)) (by exact kP BK329.out) hb);have n5_ := Aside0.mk (below_step (by exact bB) hb);clear HO335;clear HO338;clear HO341;clear BK329;clear HB;have HO335 := n0_;have HO338 := n1_;have HO341 := n2_;have HO346 := n3_;have BK329 := n4_;have HB := n5_;clear n0_ n1_ n2_ n3_ n4_ n5_;(try clear hb);(try clear hb2);(try clear hk);(try clear hi);(try clear ho0)) | ((with_reducible refine gate_dst (N := 12) rfl ?_);refine box_event ?hg (N := 12) ?hd (cs := #[.int .i64 0, .slice none 0 0]) (t := 31) ?hr ?_;(case hd => rfl);(case hg => rfl);(case hr => first | (go_simp;done) | (go_simp;rfl));intro gb347 hg w33 hbox hb;have n0_ := Aside0.mk (Kd.R_below (by (with_reducible repeat (first | apply Kd.R_alloc | apply Kd.S_alloc | apply Kd.N_alloc | apply Kd.R_drewN | apply Kd.S_drewN | apply Kd.N_drewN | apply Kd.R_drew | apply Kd.S_drew | apply Kd.N_drew));exact HO335.out) hb);have n1_ := Aside0.mk (Kd.S_below (by (with_reducible repeat (first | apply Kd.R_alloc | apply Kd.S_alloc | apply Kd.N_alloc | apply Kd.R_drewN | apply Kd.S_drewN | apply Kd.N_drewN | apply Kd.R_drew | apply Kd.S_drew | apply Kd.N_drew));exact HO338.out) hb);have n2_ := Aside0.mk (Kd.R_below (Kd.R_elderB (by (with_reducible repeat (first | apply Kd.R_alloc | apply Kd.S_alloc | apply Kd.N_alloc | apply Kd.R_drewN | apply Kd.S_drewN | apply Kd.N_drewN | apply Kd.R_drew | apply Kd.S_drew | apply Kd.N_drew));exact HO341.out) gb347 (by rw [hg];exact Nat.le_refl _)) hb);have n3_ := Aside0.mk (Kd.R_below (by (with_reducible repeat (first | apply Kd.R_alloc | apply Kd.S_alloc | apply Kd.N_alloc | apply Kd.R_drewN | apply Kd.S_drewN | apply Kd.N_drewN | apply Kd.R_drew | apply Kd.S_drew | apply Kd.N_drew));exact HO346.out) hb);have n4_ := Aside0.mk (blk_below (g := gb329) (o := .cells #[.int .i64 a0_0, .slice A0_1 l0_1.length c0_1] 24 (0, 0)) (by exact kP BK329.out) hb);have n5_ := Aside0.mk (below_step (by exact bB) hb);have n6_ := Aside0.mk (hbox);have n7_ := Aside0.mk ((by rw [hg];exact (below_size (by exact bB)) : w.heap.size ≤ gb347));have n8_ := Aside0.mk ((by rw [hg];exact (below_size (by exact bB)) : w.heap.size ≤ gb347));have n9_ := Aside0.mk ((by rw [hg];exact Nat.ne_of_lt (blk_lt (g := gb329) (o := .cells #[.int .i64 a0_0, .slice A0_1 l0_1.length c0_1] 24 (0, 0)) (by exact kP BK329.out)) : gb329 ≠ gb347));have n10_ := Aside0.mk ((by rw [hg];exact Nat.ne_of_gt (blk_lt (g := gb329) (o := .cells #[.int .i64 a0_0, .slice A0_1 l0_1.length c0_1] 24 (0, 0)) (by exact kP BK329.out)) : gb347 ≠ gb329));clear HO335;clear HO338;clear HO341;clear HO346;clear BK329;clear HB;have HO335 := n0_;have HO338 := n1_;have HO341 := n2_;have HO346 := n3_;have BK329 := n4_;have HB := n5_;have BK347 := n6_;have GW347 := n7_;have GE347 := n8_;have NB329_347 := n9_;have NB347_329 := n10_;clear n0_ n1_ n2_ n3_ n4_ n5_ n6_ n7_ n8_ n9_ n10_;clear hb hbox hg;have hnb34 := NB347_329.out;have hnc34 := NB329_347.out;have hcz35_0 : w33.cell? ⟨gb347, 0, none⟩ = some (.int .i64 0) := (blk_cell BK347.out 0).trans rfl;have hcz35_1 : w33.cell? ⟨gb347, 1, none⟩ = some (.slice none 0 0) := (blk_cell BK347.out 1).trans rfl;have hfz35_0 := blk_frozen BK347.out 0;have hfz35_1 := blk_frozen BK347.out 1;obtain ⟨Ao36, co36, eo36⟩ := Kd.R_slice HO346.out;subst eo36) | ((with_reducible refine gate_callee (f := 15) rfl ?_);refine goesL_ (some 44) rfl rfl Try.func15 (by kernel_rfl) rfl #[.slice A3 l3.length c3] rfl mM ?_;(with_reducible refine (laws_toIntSS.calls k _ _ l3 t348 _ ?side1 ?side2 A19.out).mono ?_);(case side1 => exact Kd.C_below HR3.out (by exact bB));(case side2 => exact HC3.out);rintro e w37 ⟨v349, rfl, ho0, hb⟩;refine ⟨_, rfl, ?_⟩;obtain ⟨P8_, hp8_⟩ := mine9_old hb;have n0_ := Aside0.mk (Kd.R_below (by (with_reducible repeat (first | apply Kd.R_alloc | apply Kd.S_alloc | apply Kd.N_alloc | apply Kd.R_drewN | apply Kd.S_drewN | apply Kd.N_drewN | apply Kd.R_drew | apply Kd.S_drew | apply Kd.N_drew));exact (Kd.R_mono (Kd.R_far (p := ⟨gb347, 1, none⟩) (Kd.R_far (p := ⟨gb347, 0, none⟩) (Kd.R_types HO335.out BK347.out (by decide)) (fun _ hk => hk.2) (.int .i64 t343)) (fun _ hk => hk.2) (.slice Ao36 t344.length co36)) (fun _ h_ => h_.1))) hb);have n1_ := Aside0.mk (Kd.S_elder' (by (with_reducible repeat (first | apply Kd.R_alloc | apply Kd.S_alloc | apply Kd.N_alloc | apply Kd.R_drewN | apply Kd.S_drewN | apply Kd.N_drewN | apply Kd.R_drew | apply Kd.S_drew | apply Kd.N_drew));exact (Kd.S_mono (Kd.S_far (p := ⟨gb347, 1, none⟩) (Kd.S_far (p := ⟨gb347, 0, none⟩) (Kd.S_types HO338.out BK347.out (by decide)) (fun _ hk => hk.2) (.int .i64 t343)) (fun _ hk => hk.2) (.slice Ao36 t344.length co36)) (fun _ h_ => h_.1))) (Kd.S_base ho0) hb);have n2_ := Aside0.mk (Kd.R_mono (ok' := fun k_ => ¬ P8_ k_ ∧ some k_ ≠ (.slice Ao36 t344.length co36 : Value).ownBlock) (Kd.R_old (ok := fun k_ => True ∧ some k_ ≠ (.slice Ao36 t344.length co36 : Value).ownBlock) (by (with_reducible repeat (first | apply Kd.R_alloc | apply Kd.S_alloc | apply Kd.N_alloc | apply Kd.R_drewN | apply Kd.S_drewN | apply Kd.N_drewN | apply Kd.R_drew | apply Kd.S_drew | apply Kd.N_drew));exact (Kd.R_mono (ok' := fun k_ => True ∧ some k_ ≠ (.slice Ao36 t344.length co36 : Value).ownBlock) (Kd.R_far (p := ⟨gb347, 1, none⟩) (Kd.R_far (p := ⟨gb347, 0, none⟩) HO341.out (fun _ hk => hk.2) (.int .i64 t343)) (fun _ hk => hk.2) (.slice Ao36 t344.length co36)) (fun _ h_ => ⟨trivial, h_.1.2⟩))) hb) (fun k_ hk_ => ⟨fun h_ => absurd ((hp8_ k_).1 h_) (Nat.not_le.mpr hk_.2), hk_.1.2⟩));have n3_ := Aside0.mk (Kd.R_below (by (with_reducible repeat (first | apply Kd.R_alloc | apply Kd.S_alloc | apply Kd.N_alloc | apply Kd.R_drewN | apply Kd.S_drewN | apply Kd.N_drewN | apply Kd.R_drew | apply Kd.S_drew | apply Kd.N_drew));exact (Kd.R_mono (Kd.R_far (p := ⟨gb347, 1, none⟩) (Kd.R_far (p := ⟨gb347, 0, none⟩) (Kd.R_types HO346.out BK347.out (by decide)) (fun _ hk => hk.2) (.int .i64 t343)) (fun _ hk => hk.2) (.slice Ao36 t344.length co36)) (fun _ h_ => h_.1))) hb);have n4_ := Aside0.mk (Kd.S_lower (Kd.S_mono (ok' := fun k_ => P8_ k_) (Kd.S_bound ho0) (fun k_ hk_ => (hp8_ k_).2 hk_.2.1)) (below_size (by exact bB)));have n5_ := Aside0.mk (blk_below (g := gb329) (o := .cells #[.int .i64 a0_0, .slice A0_1 l0_1.length c0_1] 24 (0, 0)) (by refine kP ?_;refine blk_far ?_ NB329_347.out _;refine kP ?_;refine blk_far ?_ NB329_347.out _;exact kP BK329.out) hb);have n6_ := Aside0.mk (blk_below (g := gb347) (o := .cells #[.int .i64 t343, .slice Ao36 t344.length co36] 31 (0, 0)) (by refine kP ?_;refine blk_put (cs := #[.int .i64 t343, .slice none 0 0]) ?_ 1 _ rfl;refine kP ?_;refine blk_put (cs := #[.int .i64 0, .slice none 0 0]) ?_ 0 _ rfl;exact kP BK347.out) hb);have n7_ := Aside0.mk (below_step (by exact bB) hb);clear HO335;clear HO338;clear HO341;clear HO346;clear BK329;clear BK347;clear HB;have HO335 := n0_;have HO338 := n1_;have HO341 := n2_;have HO346 := n3_;have HO350 := n4_;have BK329 := n5_;have BK347 := n6_;have HB := n7_;clear n0_ n1_ n2_ n3_ n4_ n5_ n6_ n7_;(try clear hb);(try clear hb2);(try clear hk);(try clear hi);(try clear ho0);have hcz38_0 : w37.cell? ⟨gb347, 0, none⟩ = some (.int .i64 t343) := (blk_cell BK347.out 0).trans rfl;have hcz38_1 : w37.cell? ⟨gb347, 1, none⟩ = some (.slice Ao36 t344.length co36) := (blk_cell BK347.out 1).trans rfl;have hfz38_0 := blk_frozen BK347.out 0;have hfz38_1 := blk_frozen BK347.out 1;obtain ⟨Ao39, co39, eo39⟩ := Kd.S_slice HO350.out;subst eo39) | ((with_reducible refine gate_callee (f := 16) rfl ?_);refine goesL_ (some 50) rfl rfl Try.func16 (by kernel_rfl) rfl #[.agg #[.int .i64 t343, .slice Ao36 t344.length co36], .int .i64 a1, .int .i64 a2, .slice Ao39 t348.length co39] rfl mM ?_;(with_reducible refine (impl_SavedNodes.calls k t343 _ _ t344 a1 a2 _ _ t348 t351 t354 _ ?side1 ?side2 ?side3 ?side4 A20.out).mono ?_);(case side1 => exact cP (Kd.R_reads' HO346.out).2.2);(case side2 => exact (Kd.R_reads' HO346.out).2.1);(case side3 => exact cP (Kd.S_reads' HO350.out).2.2);(case side4 => exact (Kd.S_reads' HO350.out).2.1);rintro e w40 ⟨v352, rfl, ho0, hb⟩;refine ⟨_, rfl, ?_⟩;obtain ⟨P9_, hp9_⟩ := mine9_old hb;have n0_ := Aside0.mk (Kd.R_below (by (with_reducible repeat (first | apply Kd.R_alloc | apply Kd.S_alloc | apply Kd.N_alloc | apply Kd.R_drewN | apply Kd.S_drewN | apply Kd.N_drewN | apply Kd.R_drew | apply Kd.S_drew | apply Kd.N_drew));exact HO335.out) hb);have n1_ := Aside0.mk (Kd.S_below (by (with_reducible repeat (first | apply Kd.R_alloc | apply Kd.S_alloc | apply Kd.N_alloc | apply Kd.R_drewN | apply Kd.S_drewN | apply Kd.N_drewN | apply Kd.R_drew | apply Kd.S_drew | apply Kd.N_drew));exact HO338.out) hb);have n2_ := Aside0.mk (Kd.R_mono (ok' := fun k_ => ¬ P8_ k_ ∧ ¬ P9_ k_ ∧ some k_ ≠ (.slice Ao36 t344.length co36 : Value).ownBlock) (Kd.R_old (ok := fun k_ => ¬ P8_ k_ ∧ some k_ ≠ (.slice Ao36 t344.length co36 : Value).ownBlock) (by (with_reducible repeat (first | apply Kd.R_alloc | apply Kd.S_alloc | apply Kd.N_alloc | apply Kd.R_drewN | apply Kd.S_drewN | apply Kd.N_drewN | apply Kd.R_drew | apply Kd.S_drew | apply Kd.N_drew));exact HO341.out) hb) (fun k_ hk_ => ⟨hk_.1.1, fun h_ => absurd ((hp9_ k_).1 h_) (Nat.not_le.mpr hk_.2), hk_.1.2⟩));have n3_ := Aside0.mk (Kd.R_below (by (with_reducible repeat (first | apply Kd.R_alloc | apply Kd.S_alloc | apply Kd.N_alloc | apply Kd.R_drewN | apply Kd.S_drewN | apply Kd.N_drewN | apply Kd.R_drew | apply Kd.S_drew | apply Kd.N_drew));exact HO346.out) hb);have n4_ := Aside0.mk (Kd.S_mono (ok' := fun k_ => P8_ k_ ∧ ¬ P9_ k_) (Kd.S_old (ok := fun k_ => P8_ k_) (by (with_reducible repeat (first | apply Kd.R_alloc | apply Kd.S_alloc | apply Kd.N_alloc | apply Kd.R_drewN | apply Kd.S_drewN | apply Kd.N_drewN | apply Kd.R_drew | apply Kd.S_drew | apply Kd.N_drew));exact HO350.out) hb) (fun k_ hk_ => ⟨hk_.1, fun h_ => absurd ((hp9_ k_).1 h_) (Nat.not_le.mpr hk_.2)⟩));have n5_ := Aside0.mk (Kd.R_lower (Kd.R_mono (ok' := fun k_ => P9_ k_) (Kd.R_bound ho0) (fun k_ hk_ => (hp9_ k_).2 hk_.2.1)) (below_size (by exact bB)));have n6_ := Aside0.mk (blk_below (g := gb329) (o := .cells #[.int .i64 a0_0, .slice A0_1 l0_1.length c0_1] 24 (0, 0)) (by exact kP BK329.out) hb);have n7_ := Aside0.mk (blk_below (g := gb347) (o := .cells #[.int .i64 t343, .slice Ao36 t344.length co36] 31 (0, 0)) (by exact kP BK347.out) hb);have n8_ := Aside0.mk (below_step (by exact bB) hb);clear HO335;clear HO338;clear HO341;clear HO346;clear HO350;clear BK329;clear BK347;clear HB;have HO335 := n0_;have HO338 := n1_;have HO341 := n2_;have HO346 := n3_;have HO350 := n4_;have HO353 := n5_;have BK329 := n6_;have BK347 := n7_;have HB := n8_;clear n0_ n1_ n2_ n3_ n4_ n5_ n6_ n7_ n8_;(try clear hb);(try clear hb2);(try clear hk);(try clear hi);(try clear ho0)))
   (try simp only [Act.put, List.setIfInBounds_toArray, List.set_cons_zero, List.set_cons_succ])
   go_cut [61] (fun v61 wc => ∃ (P8_ : Nat → Prop) (P9_ : Nat → Prop) (kq : Nat) (x61_20 : Bool), v61 = .bool x61_20 ∧ Aside0 (laws_FnExactSavedNodes.j0 kq a1 a2 l3 t339 t342 t348 t351 t354 x61_20 a0_0 l0_1 t343 t344 = some r) ∧ Aside0 (kq ≤ k) ∧ Aside0 (Kd.R (Kd.int .i64) 3 wc w.heap.size (fun k_ => ¬ P8_ k_ ∧ ¬ P9_ k_ ∧ some k_ ≠ (.slice Ao36 t344.length co36 : Value).ownBlock) v340 t339) ∧ Aside0 (Kd.S (Kd.slice 3 (Kd.int .i64)) 28 wc w.heap.size (fun k_ => P8_ k_ ∧ ¬ P9_ k_) (.slice Ao39 t348.length co39) t348) ∧ Aside0 (Kd.R (Kd.int .i64) 3 wc w.heap.size (fun k_ => P9_ k_) v352 t351) ∧ Aside0 (Kd.R k119 119 wc w.heap.size (fun _ => True) (.slice Ao36 t344.length co36) t344) ∧ Aside0 (wc.heap[gb329]? = some (.cells #[.int .i64 a0_0, (.slice A0_1 l0_1.length c0_1)] 24 (0, 0))) ∧ Aside0 (wc.heap[gb347]? = some (.cells #[.int .i64 t343, (.slice Ao36 t344.length co36)] 31 (0, 0))) ∧ Aside0 (Below w.heap.size w wc))
   case first =>
    have H := HC21.out
    clear HC21
    replace H := Option.bind_eq_some_iff.mp H
    obtain ⟨t355, A410, H⟩ := H
    replace H : (if t355 = true then (laws_FnExactSavedNodes.j0 k a1 a2 l3 t339 t342 t348 t351 t354 (t354 != t342) a0_0 l0_1 t343 t344) else (laws_FnExactSavedNodes.j0 k a1 a2 l3 t339 t342 t348 t351 t354 true a0_0 l0_1 t343 t344)) = some r := H
    have A41 := Aside0.mk A410
    clear A410
    by_cases c42 : t355 = true
    ·subst c42
     have H1 : (laws_FnExactSavedNodes.j0 k a1 a2 l3 t339 t342 t348 t351 t354 (t354 != t342) a0_0 l0_1 t343 t344) = some r := by rw [if_pos rfl] at H;exact H
     clear H
     have H := H1
     clear H1
     have H' := Aside0.mk H
     clear H
     obtain ⟨Ao43, co43, eo43⟩ := Kd.R_slice HO353.out
     subst eo43
     obtain ⟨Ao44, co44, eo44⟩ := Kd.R_slice HO341.out
     subst eo44
     go_wp2_with (first | ((with_reducible refine gate_callee (f := 17) rfl ?_);refine goesL_ (some 55) rfl rfl Try.func17 (by kernel_rfl) rfl #[.slice Ao43 t351.length co43, .slice Ao44 t339.length co44] rfl mM ?_;(with_reducible refine (laws_eqIntS.calls k _ _ t351 _ _ t339 true _ ?side1 ?side2 ?side3 ?side4 A41.out).mono ?_);(case side1 => exact cP (Kd.R_reads' HO353.out).2.2);(case side2 => exact (Kd.R_reads' HO353.out).2.1);(case side3 => exact cP (Kd.R_reads' HO341.out).2.2);(case side4 => exact (Kd.R_reads' HO341.out).2.1);rintro e w' ⟨rfl, ⟨nd, rfl⟩⟩;refine ⟨_, rfl, ?_⟩))
     go_meet
     case rel => exact ⟨P8_, P9_, _, ((t354 != t342)), (by first | rfl | (simp;done) | (simp [*];done)), H', ⟨by first | omega | exact Nat.le_refl _⟩, ⟨by (with_reducible repeat (first | apply Kd.R_alloc | apply Kd.S_alloc | apply Kd.N_alloc | apply Kd.R_drewN | apply Kd.S_drewN | apply Kd.N_drewN | apply Kd.R_drew | apply Kd.S_drew | apply Kd.N_drew));exact Kd.R_mono HO341.out (fun _ hk => by first | exact hk | exact hk.2 | exact hk.1 | exact hk.2.1 | exact ⟨hk.1, hk.2.1⟩ | trivial)⟩, ⟨by (with_reducible repeat (first | apply Kd.R_alloc | apply Kd.S_alloc | apply Kd.N_alloc | apply Kd.R_drewN | apply Kd.S_drewN | apply Kd.N_drewN | apply Kd.R_drew | apply Kd.S_drew | apply Kd.N_drew));exact Kd.S_mono HO350.out (fun _ hk => by first | exact hk | exact hk.2 | exact hk.1 | exact hk.2.1 | exact ⟨hk.1, hk.2.1⟩ | trivial)⟩, ⟨by (with_reducible repeat (first | apply Kd.R_alloc | apply Kd.S_alloc | apply Kd.N_alloc | apply Kd.R_drewN | apply Kd.S_drewN | apply Kd.N_drewN | apply Kd.R_drew | apply Kd.S_drew | apply Kd.N_drew));exact Kd.R_mono HO353.out (fun _ hk => by first | exact hk | exact hk.2 | exact hk.1 | exact hk.2.1 | exact ⟨hk.1, hk.2.1⟩ | trivial)⟩, ⟨by (with_reducible repeat (first | apply Kd.R_alloc | apply Kd.S_alloc | apply Kd.N_alloc | apply Kd.R_drewN | apply Kd.S_drewN | apply Kd.N_drewN | apply Kd.R_drew | apply Kd.S_drew | apply Kd.N_drew));exact Kd.R_mono HO346.out (fun _ hk => trivial)⟩, ⟨by exact kP BK329.out⟩, ⟨by exact kP BK347.out⟩, ⟨by exact bB⟩⟩
    ·replace c42 := Bool.eq_false_iff.mpr c42
     subst c42
     have H1 : (laws_FnExactSavedNodes.j0 k a1 a2 l3 t339 t342 t348 t351 t354 true a0_0 l0_1 t343 t344) = some r := by rw [if_neg (show ¬ (false = true) by decide)] at H;exact H
     clear H
     have H := H1
     clear H1
     have H' := Aside0.mk H
     clear H
     obtain ⟨Ao45, co45, eo45⟩ := Kd.R_slice HO353.out
     subst eo45
     obtain ⟨Ao46, co46, eo46⟩ := Kd.R_slice HO341.out
     subst eo46
     go_wp2_with (first | ((with_reducible refine gate_callee (f := 17) rfl ?_);refine goesL_ (some 55) rfl rfl Try.func17 (by kernel_rfl) rfl #[.slice Ao45 t351.length co45, .slice Ao46 t339.length co46] rfl mM ?_;(with_reducible refine (laws_eqIntS.calls k _ _ t351 _ _ t339 false _ ?side1 ?side2 ?side3 ?side4 A41.out).mono ?_);(case side1 => exact cP (Kd.R_reads' HO353.out).2.2);(case side2 => exact (Kd.R_reads' HO353.out).2.1);(case side3 => exact cP (Kd.R_reads' HO341.out).2.2);(case side4 => exact (Kd.R_reads' HO341.out).2.1);rintro e w' ⟨rfl, ⟨nd, rfl⟩⟩;refine ⟨_, rfl, ?_⟩))
     go_meet
     case rel => exact ⟨P8_, P9_, _, (true), (by first | rfl | (simp;done) | (simp [*];done)), H', ⟨by first | omega | exact Nat.le_refl _⟩, ⟨by (with_reducible repeat (first | apply Kd.R_alloc | apply Kd.S_alloc | apply Kd.N_alloc | apply Kd.R_drewN | apply Kd.S_drewN | apply Kd.N_drewN | apply Kd.R_drew | apply Kd.S_drew | apply Kd.N_drew));exact Kd.R_mono HO341.out (fun _ hk => by first | exact hk | exact hk.2 | exact hk.1 | exact hk.2.1 | exact ⟨hk.1, hk.2.1⟩ | trivial)⟩, ⟨by (with_reducible repeat (first | apply Kd.R_alloc | apply Kd.S_alloc | apply Kd.N_alloc | apply Kd.R_drewN | apply Kd.S_drewN | apply Kd.N_drewN | apply Kd.R_drew | apply Kd.S_drew | apply Kd.N_drew));exact Kd.S_mono HO350.out (fun _ hk => by first | exact hk | exact hk.2 | exact hk.1 | exact hk.2.1 | exact ⟨hk.1, hk.2.1⟩ | trivial)⟩, ⟨by (with_reducible repeat (first | apply Kd.R_alloc | apply Kd.S_alloc | apply Kd.N_alloc | apply Kd.R_drewN | apply Kd.S_drewN | apply Kd.N_drewN | apply Kd.R_drew | apply Kd.S_drew | apply Kd.N_drew));exact Kd.R_mono HO353.out (fun _ hk => by first | exact hk | exact hk.2 | exact hk.1 | exact hk.2.1 | exact ⟨hk.1, hk.2.1⟩ | trivial)⟩, ⟨by (with_reducible repeat (first | apply Kd.R_alloc | apply Kd.S_alloc | apply Kd.N_alloc | apply Kd.R_drewN | apply Kd.S_drewN | apply Kd.N_drewN | apply Kd.R_drew | apply Kd.S_drew | apply Kd.N_drew));exact Kd.R_mono HO346.out (fun _ hk => trivial)⟩, ⟨by exact kP BK329.out⟩, ⟨by exact kP BK347.out⟩, ⟨by exact bB⟩⟩
   case rest =>
    clear HC21
    try clear c1
    try clear p2
    try clear c3
    try clear c4
    try clear c6
    try clear c6b0
    try clear c11
    try clear c11b0
    try clear c12
    try clear c13
    try clear c14
    try clear c15
    try clear c16
    try clear c17
    try clear c34
    try clear c42
    try clear hcz13_0
    try clear hcz13_1
    try clear hcz23_0
    try clear hcz23_1
    try clear hcz25_0
    try clear hcz25_1
    try clear hcz31_0
    try clear hcz31_1
    try clear hcz35_0
    try clear hcz35_1
    try clear hcz38_0
    try clear hcz38_1
    try clear hcz8_0
    try clear hcz8_1
    try clear hfz13_0
    try clear hfz13_1
    try clear hfz23_0
    try clear hfz23_1
    try clear hfz25_0
    try clear hfz25_1
    try clear hfz31_0
    try clear hfz31_1
    try clear hfz35_0
    try clear hfz35_1
    try clear hfz38_0
    try clear hfz38_1
    try clear hfz8_0
    try clear hfz8_1
    obtain ⟨P8_, P9_, kq, x61_20, rfl, HA, HJ20, HO_10, HO_13, HO_14, HO_348001, BK329, BK347, HB⟩ := hcut
    cases kq with
    | zero => exact absurd HA.out (by simp [laws_FnExactSavedNodes.j0])
    | succ kj20 =>
     have H := HA.out
     clear HA
     simp only [laws_FnExactSavedNodes.j0] at H
     by_cases c47 : x61_20 = true
     ·subst c47
      have H1 : (some false) = some r := by rw [if_pos rfl] at H;exact H
      clear H
      have H := H1
      clear H1
      obtain rfl := Option.some.inj H
      go_wp2
      go_ret
      exact ⟨by first | rfl | (simp [errW_none, errW_some] <;> rfl) | (simp [*, errW_none, errW_some] <;> rfl), by exact bB⟩
     ·replace c47 := Bool.eq_false_iff.mpr c47
      subst c47
      have H1 : ((laws_toGraph.f kj20 a0_0 l0_1).bind fun bt356 => ((laws_eqGraph.f kj20 t343 t344 bt356.1 bt356.2).bind fun t360 => (if t360 = true then ((laws_toIntSS.f kj20 l3).bind fun t361 => ((laws_eqIntSS.f kj20 t348 t361).bind fun t364 => (if t364 = true then ((laws_markGraph.f t343 t344 1).bind fun bt365 => ((laws_markIntSS.f kj20 t348 bt365.1).bind fun bt367 => (if bt367.1 < 0 then (laws_FnExactSavedNodes.j1 kj20 a1 a2 l3 t339 t342 t351 true a0_0 l0_1) else ((laws_eqIntS.f kj20 t351 t339).bind fun t369 => (if t369 = true then (laws_FnExactSavedNodes.j1 kj20 a1 a2 l3 t339 t342 t351 (t354 != t342) a0_0 l0_1) else (laws_FnExactSavedNodes.j1 kj20 a1 a2 l3 t339 t342 t351 true a0_0 l0_1)))))) else (some false)))) else (some false)))) = some r := by rw [if_neg (show ¬ (false = true) by decide)] at H;exact H
      clear H
      have H := H1
      clear H1
      replace H := Option.bind_eq_some_iff.mp H
      obtain ⟨⟨t356, t357⟩, A480, H⟩ := H
      replace H : ((laws_eqGraph.f kj20 t343 t344 t356 t357).bind fun t360 => (if t360 = true then ((laws_toIntSS.f kj20 l3).bind fun t361 => ((laws_eqIntSS.f kj20 t348 t361).bind fun t364 => (if t364 = true then ((laws_markGraph.f t343 t344 1).bind fun bt365 => ((laws_markIntSS.f kj20 t348 bt365.1).bind fun bt367 => (if bt367.1 < 0 then (laws_FnExactSavedNodes.j1 kj20 a1 a2 l3 t339 t342 t351 true a0_0 l0_1) else ((laws_eqIntS.f kj20 t351 t339).bind fun t369 => (if t369 = true then (laws_FnExactSavedNodes.j1 kj20 a1 a2 l3 t339 t342 t351 (t354 != t342) a0_0 l0_1) else (laws_FnExactSavedNodes.j1 kj20 a1 a2 l3 t339 t342 t351 true a0_0 l0_1)))))) else (some false)))) else (some false))) = some r := H
      have A48 := Aside0.mk A480
      clear A480
      replace H := Option.bind_eq_some_iff.mp H
      obtain ⟨t360, A490, H⟩ := H
      replace H : (if t360 = true then ((laws_toIntSS.f kj20 l3).bind fun t361 => ((laws_eqIntSS.f kj20 t348 t361).bind fun t364 => (if t364 = true then ((laws_markGraph.f t343 t344 1).bind fun bt365 => ((laws_markIntSS.f kj20 t348 bt365.1).bind fun bt367 => (if bt367.1 < 0 then (laws_FnExactSavedNodes.j1 kj20 a1 a2 l3 t339 t342 t351 true a0_0 l0_1) else ((laws_eqIntS.f kj20 t351 t339).bind fun t369 => (if t369 = true then (laws_FnExactSavedNodes.j1 kj20 a1 a2 l3 t339 t342 t351 (t354 != t342) a0_0 l0_1) else (laws_FnExactSavedNodes.j1 kj20 a1 a2 l3 t339 t342 t351 true a0_0 l0_1)))))) else (some false)))) else (some false)) = some r := H
      have A49 := Aside0.mk A490
      clear A490
      by_cases c50 : t360 = true
      ·subst c50
       have H1 : ((laws_toIntSS.f kj20 l3).bind fun t361 => ((laws_eqIntSS.f kj20 t348 t361).bind fun t364 => (if t364 = true then ((laws_markGraph.f t343 t344 1).bind fun bt365 => ((laws_markIntSS.f kj20 t348 bt365.1).bind fun bt367 => (if bt367.1 < 0 then (laws_FnExactSavedNodes.j1 kj20 a1 a2 l3 t339 t342 t351 true a0_0 l0_1) else ((laws_eqIntS.f kj20 t351 t339).bind fun t369 => (if t369 = true then (laws_FnExactSavedNodes.j1 kj20 a1 a2 l3 t339 t342 t351 (t354 != t342) a0_0 l0_1) else (laws_FnExactSavedNodes.j1 kj20 a1 a2 l3 t339 t342 t351 true a0_0 l0_1)))))) else (some false)))) = some r := by rw [if_pos rfl] at H;exact H
       clear H
       have H := H1
       clear H1
       replace H := Option.bind_eq_some_iff.mp H
       obtain ⟨t361, A510, H⟩ := H
       replace H : ((laws_eqIntSS.f kj20 t348 t361).bind fun t364 => (if t364 = true then ((laws_markGraph.f t343 t344 1).bind fun bt365 => ((laws_markIntSS.f kj20 t348 bt365.1).bind fun bt367 => (if bt367.1 < 0 then (laws_FnExactSavedNodes.j1 kj20 a1 a2 l3 t339 t342 t351 true a0_0 l0_1) else ((laws_eqIntS.f kj20 t351 t339).bind fun t369 => (if t369 = true then (laws_FnExactSavedNodes.j1 kj20 a1 a2 l3 t339 t342 t351 (t354 != t342) a0_0 l0_1) else (laws_FnExactSavedNodes.j1 kj20 a1 a2 l3 t339 t342 t351 true a0_0 l0_1)))))) else (some false))) = some r := H
       have A51 := Aside0.mk A510
       clear A510
       replace H := Option.bind_eq_some_iff.mp H
       obtain ⟨t364, A520, H⟩ := H
       replace H : (if t364 = true then ((laws_markGraph.f t343 t344 1).bind fun bt365 => ((laws_markIntSS.f kj20 t348 bt365.1).bind fun bt367 => (if bt367.1 < 0 then (laws_FnExactSavedNodes.j1 kj20 a1 a2 l3 t339 t342 t351 true a0_0 l0_1) else ((laws_eqIntS.f kj20 t351 t339).bind fun t369 => (if t369 = true then (laws_FnExactSavedNodes.j1 kj20 a1 a2 l3 t339 t342 t351 (t354 != t342) a0_0 l0_1) else (laws_FnExactSavedNodes.j1 kj20 a1 a2 l3 t339 t342 t351 true a0_0 l0_1)))))) else (some false)) = some r := H
       have A52 := Aside0.mk A520
       clear A520
       by_cases c53 : t364 = true
       ·subst c53
        have H1 : ((laws_markGraph.f t343 t344 1).bind fun bt365 => ((laws_markIntSS.f kj20 t348 bt365.1).bind fun bt367 => (if bt367.1 < 0 then (laws_FnExactSavedNodes.j1 kj20 a1 a2 l3 t339 t342 t351 true a0_0 l0_1) else ((laws_eqIntS.f kj20 t351 t339).bind fun t369 => (if t369 = true then (laws_FnExactSavedNodes.j1 kj20 a1 a2 l3 t339 t342 t351 (t354 != t342) a0_0 l0_1) else (laws_FnExactSavedNodes.j1 kj20 a1 a2 l3 t339 t342 t351 true a0_0 l0_1)))))) = some r := by rw [if_pos rfl] at H;exact H
        clear H
        have H := H1
        clear H1
        replace H := Option.bind_eq_some_iff.mp H
        obtain ⟨⟨t365, t366⟩, A540, H⟩ := H
        replace H : ((laws_markIntSS.f kj20 t348 t365).bind fun bt367 => (if bt367.1 < 0 then (laws_FnExactSavedNodes.j1 kj20 a1 a2 l3 t339 t342 t351 true a0_0 l0_1) else ((laws_eqIntS.f kj20 t351 t339).bind fun t369 => (if t369 = true then (laws_FnExactSavedNodes.j1 kj20 a1 a2 l3 t339 t342 t351 (t354 != t342) a0_0 l0_1) else (laws_FnExactSavedNodes.j1 kj20 a1 a2 l3 t339 t342 t351 true a0_0 l0_1))))) = some r := H
        have A54 := Aside0.mk A540
        clear A540
        replace H := Option.bind_eq_some_iff.mp H
        obtain ⟨⟨t367, t368⟩, A550, H⟩ := H
        replace H : (if t367 < 0 then (laws_FnExactSavedNodes.j1 kj20 a1 a2 l3 t339 t342 t351 true a0_0 l0_1) else ((laws_eqIntS.f kj20 t351 t339).bind fun t369 => (if t369 = true then (laws_FnExactSavedNodes.j1 kj20 a1 a2 l3 t339 t342 t351 (t354 != t342) a0_0 l0_1) else (laws_FnExactSavedNodes.j1 kj20 a1 a2 l3 t339 t342 t351 true a0_0 l0_1)))) = some r := H
        have A55 := Aside0.mk A550
        clear A550
        have HC56 := Aside0.mk H
        clear H
        try go_wp2
        have n0_ := Aside0.mk (Kd.R_drew HO_10.out)
        have n1_ := Aside0.mk (Kd.S_drew HO_13.out)
        have n2_ := Aside0.mk (Kd.R_drew HO_14.out)
        have n3_ := Aside0.mk (Kd.R_drew HO_348001.out)
        have n4_ := Aside0.mk (blk_drew BK329.out)
        have n5_ := Aside0.mk (blk_drew BK347.out)
        have n6_ := Aside0.mk (below_drew1 HB.out)
        clear HO_10
        clear HO_13
        clear HO_14
        clear HO_348001
        clear BK329
        clear BK347
        clear HB
        have HO_10 := n0_
        have HO_13 := n1_
        have HO_14 := n2_
        have HO_348001 := n3_
        have BK329 := n4_
        have BK347 := n5_
        have HB := n6_
        clear n0_ n1_ n2_ n3_ n4_ n5_ n6_
        refine start_ (n := 5) (S := fun w' => w'.cell? ⟨gb347, 0, none⟩ = some (.int .i64 t343) ∧ w'.cell? ⟨gb347, 1, none⟩ = some (.slice Ao36 t344.length co36) ∧ w'.cell? ⟨gb329, 0, none⟩ = some (.int .i64 a0_0) ∧ w'.cell? ⟨gb329, 1, none⟩ = some (.slice A0_1 l0_1.length c0_1)) (ds := []) #[false,false,false,false,false] (by kernel_rfl) rfl rfl ⟨(blk_cell BK347.out 0).trans rfl, (blk_cell BK347.out 1).trans rfl, (blk_cell BK329.out 0).trans rfl, (blk_cell BK329.out 1).trans rfl⟩ (fun hHeld => ?_)
        generalize wc.drew = w57 at HO_10 HO_13 HO_14 HO_348001 BK329 BK347 HB hHeld ⊢
        refine take_ (i := 0) (N := some 62) (v := ?_) (a' := ?_) #[true,false,false,false,false] rfl rfl (by kernel_rfl) (fun _ _ _ h => h) (Or.inl ⟨by rfl, ?_⟩) hHeld ?_ ?_
        rotate_left
        ·rintro w' ⟨s0, s1, s2, s3⟩
         go_simp
         with_reducible rfl
        rotate_left
        ·simp only [Act.put, List.setIfInBounds_toArray, List.set_cons_zero, List.set_cons_succ, i64_w, i32_w]
         rfl
        refine take_ (i := 1) (N := some 63) (v := ?_) (a' := ?_) #[true,true,false,false,false] rfl rfl (by kernel_rfl) (fun _ _ _ h => h) (Or.inl ⟨by rfl, ?_⟩) hHeld ?_ ?_
        rotate_left
        ·rintro w' ⟨s0, s1, s2, s3⟩
         go_simp
         with_reducible rfl
        rotate_left
        ·simp only [Act.put, List.setIfInBounds_toArray, List.set_cons_zero, List.set_cons_succ, i64_w, i32_w]
         rfl
        refine one_ (i := 2) (N := some 64) #[true,true,true,false,false] rfl rfl (by kernel_rfl) (by decide) (fun K hK => ?_)
        refine goes_ Try.func14 (by kernel_rfl) rfl #[.agg #[.int .i64 a0_0, .slice A0_1 l0_1.length c0_1]] (by rfl) rfl rfl mM ?_
        with_reducible refine (laws_toGraph.calls kj20 a0_0 _ _ l0_1 t356 t357 _ ?side1 ?side2 A48.out).mono ?_
        (case side1 => exact cP (Kd.C_below HR0_1.out HB.out))
        (case side2 => exact HC0_1.out)
        rintro e w58 ⟨v358, rfl, ho0, hb⟩
        refine ⟨_, rfl, ?_⟩
        have n0_ := Aside0.mk (Kd.R_below (by (with_reducible repeat (first | apply Kd.R_alloc | apply Kd.S_alloc | apply Kd.N_alloc | apply Kd.R_drewN | apply Kd.S_drewN | apply Kd.N_drewN | apply Kd.R_drew | apply Kd.S_drew | apply Kd.N_drew));exact HO_10.out) hb)
        have n1_ := Aside0.mk (Kd.S_below (by (with_reducible repeat (first | apply Kd.R_alloc | apply Kd.S_alloc | apply Kd.N_alloc | apply Kd.R_drewN | apply Kd.S_drewN | apply Kd.N_drewN | apply Kd.R_drew | apply Kd.S_drew | apply Kd.N_drew));exact HO_13.out) hb)
        have n2_ := Aside0.mk (Kd.R_below (by (with_reducible repeat (first | apply Kd.R_alloc | apply Kd.S_alloc | apply Kd.N_alloc | apply Kd.R_drewN | apply Kd.S_drewN | apply Kd.N_drewN | apply Kd.R_drew | apply Kd.S_drew | apply Kd.N_drew));exact HO_14.out) hb)
        have n3_ := Aside0.mk (Kd.R_elder' (by (with_reducible repeat (first | apply Kd.R_alloc | apply Kd.S_alloc | apply Kd.N_alloc | apply Kd.R_drewN | apply Kd.S_drewN | apply Kd.N_drewN | apply Kd.R_drew | apply Kd.S_drew | apply Kd.N_drew));exact HO_348001.out) (Kd.R_base ho0) hb)
        have n4_ := Aside0.mk (Kd.R_lower (Kd.R_new' ho0 (Kd.R_lt (by (with_reducible repeat (first | apply Kd.R_alloc | apply Kd.S_alloc | apply Kd.N_alloc | apply Kd.R_drewN | apply Kd.S_drewN | apply Kd.N_drewN | apply Kd.R_drew | apply Kd.S_drew | apply Kd.N_drew));exact HO_348001.out))) (below_size (by exact bB)))
        have n5_ := Aside0.mk (blk_below (g := gb329) (o := .cells #[.int .i64 a0_0, .slice A0_1 l0_1.length c0_1] 24 (0, 0)) (by exact kP BK329.out) hb)
        have n6_ := Aside0.mk (blk_below (g := gb347) (o := .cells #[.int .i64 t343, .slice Ao36 t344.length co36] 31 (0, 0)) (by exact kP BK347.out) hb)
        have n7_ := Aside0.mk (below_step (by exact bB) hb)
        clear HO_10
        clear HO_13
        clear HO_14
        clear HO_348001
        clear BK329
        clear BK347
        clear HB
        have HO_10 := n0_
        have HO_13 := n1_
        have HO_14 := n2_
        have HO_348001 := n3_
        have HO359 := n4_
        have BK329 := n5_
        have BK347 := n6_
        have HB := n7_
        clear n0_ n1_ n2_ n3_ n4_ n5_ n6_ n7_
        (try clear hb)
        (try clear hb2)
        (try clear hk)
        (try clear hi)
        (try clear ho0)
        obtain ⟨Ao59, co59, eo59⟩ := Kd.R_slice HO359.out
        (first | subst eo59 | (injection eo59 with f1_ f2_ f3_;have f4_ := f1_.symm;have f5_ := f3_.symm;clear f1_ f2_ f3_;subst f4_;subst f5_))
        refine hK.out _ _ ⟨(blk_cell BK347.out 0).trans rfl, (blk_cell BK347.out 1).trans rfl, (blk_cell BK329.out 0).trans rfl, (blk_cell BK329.out 1).trans rfl⟩ (fun hHeld => ?_)
        clear hK K
        refine norm_ (a' := ?_) ?_ ?_
        rotate_left
        ·show Act.put _ (some 64) _ = _
         simp only [Act.put, List.setIfInBounds_toArray, List.set_cons_zero, List.set_cons_succ, i64_w, i32_w]
         rfl
        refine one_ (i := 3) (N := some 65) #[true,true,true,true,false] rfl rfl (by kernel_rfl) (by decide) (fun K hK => ?_)
        refine goes_ Try.func18 (by kernel_rfl) rfl #[.agg #[.int .i64 t343, .slice Ao36 t344.length co36], .agg #[.int .i64 t356, .slice Ao59 t357.length co59]] (by rfl) rfl rfl mM ?_
        with_reducible refine (laws_eqGraph.calls kj20 t343 _ _ t344 t356 _ _ t357 true _ ?side1 ?side2 ?side3 ?side4 A49.out).mono ?_
        (case side1 => exact cP (Kd.R_reads' HO_348001.out).2.2)
        (case side2 => exact (Kd.R_reads' HO_348001.out).2.1)
        (case side3 => exact cP (Kd.R_reads' HO359.out).2.2)
        (case side4 => exact (Kd.R_reads' HO359.out).2.1)
        rintro e w60 ⟨rfl, hb⟩
        refine ⟨_, rfl, ?_⟩
        have n0_ := Aside0.mk (Kd.R_below (by (with_reducible repeat (first | apply Kd.R_alloc | apply Kd.S_alloc | apply Kd.N_alloc | apply Kd.R_drewN | apply Kd.S_drewN | apply Kd.N_drewN | apply Kd.R_drew | apply Kd.S_drew | apply Kd.N_drew));exact HO_10.out) hb)
        have n1_ := Aside0.mk (Kd.S_below (by (with_reducible repeat (first | apply Kd.R_alloc | apply Kd.S_alloc | apply Kd.N_alloc | apply Kd.R_drewN | apply Kd.S_drewN | apply Kd.N_drewN | apply Kd.R_drew | apply Kd.S_drew | apply Kd.N_drew));exact HO_13.out) hb)
        have n2_ := Aside0.mk (Kd.R_below (by (with_reducible repeat (first | apply Kd.R_alloc | apply Kd.S_alloc | apply Kd.N_alloc | apply Kd.R_drewN | apply Kd.S_drewN | apply Kd.N_drewN | apply Kd.R_drew | apply Kd.S_drew | apply Kd.N_drew));exact HO_14.out) hb)
        have n3_ := Aside0.mk (Kd.R_below (by (with_reducible repeat (first | apply Kd.R_alloc | apply Kd.S_alloc | apply Kd.N_alloc | apply Kd.R_drewN | apply Kd.S_drewN | apply Kd.N_drewN | apply Kd.R_drew | apply Kd.S_drew | apply Kd.N_drew));exact HO_348001.out) hb)
        have n4_ := Aside0.mk (Kd.R_below (by (with_reducible repeat (first | apply Kd.R_alloc | apply Kd.S_alloc | apply Kd.N_alloc | apply Kd.R_drewN | apply Kd.S_drewN | apply Kd.N_drewN | apply Kd.R_drew | apply Kd.S_drew | apply Kd.N_drew));exact HO359.out) hb)
        have n5_ := Aside0.mk (blk_below (g := gb329) (o := .cells #[.int .i64 a0_0, .slice A0_1 l0_1.length c0_1] 24 (0, 0)) (by exact kP BK329.out) hb)
        have n6_ := Aside0.mk (blk_below (g := gb347) (o := .cells #[.int .i64 t343, .slice Ao36 t344.length co36] 31 (0, 0)) (by exact kP BK347.out) hb)
        have n7_ := Aside0.mk (below_step (by exact bB) hb)
        clear HO_10
        clear HO_13
        clear HO_14
        clear HO_348001
        clear HO359
        clear BK329
        clear BK347
        clear HB
        have HO_10 := n0_
        have HO_13 := n1_
        have HO_14 := n2_
        have HO_348001 := n3_
        have HO359 := n4_
        have BK329 := n5_
        have BK347 := n6_
        have HB := n7_
        clear n0_ n1_ n2_ n3_ n4_ n5_ n6_ n7_
        (try clear hb)
        (try clear hb2)
        (try clear hk)
        (try clear hi)
        refine hK.out _ _ ⟨(blk_cell BK347.out 0).trans rfl, (blk_cell BK347.out 1).trans rfl, (blk_cell BK329.out 0).trans rfl, (blk_cell BK329.out 1).trans rfl⟩ (fun hHeld => ?_)
        clear hK K
        refine norm_ (a' := ?_) ?_ ?_
        rotate_left
        ·show Act.put _ (some 65) _ = _
         simp only [Act.put, List.setIfInBounds_toArray, List.set_cons_zero, List.set_cons_succ, i64_w, i32_w]
         rfl
        refine pure_ (i := 4) (N := some 66) (v := ?_) (a' := ?_) #[true,true,true,true,true] rfl rfl (by kernel_rfl) (fun _ _ _ h => h) (Or.inl ⟨by rfl, ?_⟩) ?_ ?_
        rotate_left
        ·intro w'
         go_simp
         with_reducible rfl
        rotate_left
        ·simp only [Act.put, List.setIfInBounds_toArray, List.set_cons_zero, List.set_cons_succ, i64_w, i32_w]
         rfl
        refine done_ (by kernel_rfl) ?_
        go_upto_region 21 with (first | ((with_reducible refine gate_callee (f := 15) rfl ?_);refine goesL_ (some 69) rfl rfl Try.func15 (by kernel_rfl) rfl #[.slice A3 l3.length c3] rfl mM ?_;(with_reducible refine (laws_toIntSS.calls kj20 _ _ l3 t361 _ ?side1 ?side2 A51.out).mono ?_);(case side1 => exact cP (Kd.C_below HR3.out HB.out));(case side2 => exact HC3.out);rintro e w61 ⟨v362, rfl, ho0, hb⟩;refine ⟨_, rfl, ?_⟩;have n0_ := Aside0.mk (Kd.R_below (by (with_reducible repeat (first | apply Kd.R_alloc | apply Kd.S_alloc | apply Kd.N_alloc | apply Kd.R_drewN | apply Kd.S_drewN | apply Kd.N_drewN | apply Kd.R_drew | apply Kd.S_drew | apply Kd.N_drew));exact HO_10.out) hb);have n1_ := Aside0.mk (Kd.S_below (by (with_reducible repeat (first | apply Kd.R_alloc | apply Kd.S_alloc | apply Kd.N_alloc | apply Kd.R_drewN | apply Kd.S_drewN | apply Kd.N_drewN | apply Kd.R_drew | apply Kd.S_drew | apply Kd.N_drew));exact HO_13.out) hb);have n2_ := Aside0.mk (Kd.R_below (by (with_reducible repeat (first | apply Kd.R_alloc | apply Kd.S_alloc | apply Kd.N_alloc | apply Kd.R_drewN | apply Kd.S_drewN | apply Kd.N_drewN | apply Kd.R_drew | apply Kd.S_drew | apply Kd.N_drew));exact HO_14.out) hb);have n3_ := Aside0.mk (Kd.R_below (by (with_reducible repeat (first | apply Kd.R_alloc | apply Kd.S_alloc | apply Kd.N_alloc | apply Kd.R_drewN | apply Kd.S_drewN | apply Kd.N_drewN | apply Kd.R_drew | apply Kd.S_drew | apply Kd.N_drew));exact HO_348001.out) hb);have n4_ := Aside0.mk (Kd.R_below (by (with_reducible repeat (first | apply Kd.R_alloc | apply Kd.S_alloc | apply Kd.N_alloc | apply Kd.R_drewN | apply Kd.S_drewN | apply Kd.N_drewN | apply Kd.R_drew | apply Kd.S_drew | apply Kd.N_drew));exact HO359.out) hb);have n5_ := Aside0.mk (Kd.S_lower (Kd.S_new' ho0 (Kd.S_lt (by (with_reducible repeat (first | apply Kd.R_alloc | apply Kd.S_alloc | apply Kd.N_alloc | apply Kd.R_drewN | apply Kd.S_drewN | apply Kd.N_drewN | apply Kd.R_drew | apply Kd.S_drew | apply Kd.N_drew));exact HO_13.out))) (below_size (by exact bB)));have n6_ := Aside0.mk (blk_below (g := gb329) (o := .cells #[.int .i64 a0_0, .slice A0_1 l0_1.length c0_1] 24 (0, 0)) (by exact kP BK329.out) hb);have n7_ := Aside0.mk (blk_below (g := gb347) (o := .cells #[.int .i64 t343, .slice Ao36 t344.length co36] 31 (0, 0)) (by exact kP BK347.out) hb);have n8_ := Aside0.mk (below_step (by exact bB) hb);clear HO_10;clear HO_13;clear HO_14;clear HO_348001;clear HO359;clear BK329;clear BK347;clear HB;have HO_10 := n0_;have HO_13 := n1_;have HO_14 := n2_;have HO_348001 := n3_;have HO359 := n4_;have HO363 := n5_;have BK329 := n6_;have BK347 := n7_;have HB := n8_;clear n0_ n1_ n2_ n3_ n4_ n5_ n6_ n7_ n8_;(try clear hb);(try clear hb2);(try clear hk);(try clear hi);(try clear ho0);obtain ⟨Ao62, co62, eo62⟩ := Kd.S_slice HO363.out;subst eo62) | ((with_reducible refine gate_callee (f := 19) rfl ?_);refine goesL_ (some 70) rfl rfl Try.func19 (by kernel_rfl) rfl #[.slice Ao39 t348.length co39, .slice Ao62 t361.length co62] rfl mM ?_;(with_reducible refine (laws_eqIntSS.calls kj20 _ _ t348 _ _ t361 true _ ?side1 ?side2 ?side3 ?side4 A52.out).mono ?_);(case side1 => exact cP (Kd.S_reads' HO_13.out).2.2);(case side2 => exact (Kd.S_reads' HO_13.out).2.1);(case side3 => exact cP (Kd.S_reads' HO363.out).2.2);(case side4 => exact (Kd.S_reads' HO363.out).2.1);rintro e w' ⟨rfl, ⟨nd, rfl⟩⟩;refine ⟨_, rfl, ?_⟩;have hnb63 := NB347_329.out;have hnc63 := NB329_347.out;have hcz64_0 : w61.cell? ⟨gb347, 0, none⟩ = some (.int .i64 t343) := (blk_cell BK347.out 0).trans rfl;have hcz64_1 : w61.cell? ⟨gb347, 1, none⟩ = some (.slice Ao36 t344.length co36) := (blk_cell BK347.out 1).trans rfl;have hfz64_0 := blk_frozen BK347.out 0;have hfz64_1 := blk_frozen BK347.out 1) | ((with_reducible refine gate_callee (f := 20) rfl ?_);refine goesL_ (some 74) rfl rfl Try.func20 (by kernel_rfl) rfl #[.agg #[.int .i64 t343, .slice Ao36 t344.length co36], .int .i64 1] rfl mM ?_;(with_reducible refine (laws_markGraph.calls t343 (fun k_ => some k_ = (.slice Ao36 t344.length co36 : Value).ownBlock) (.slice Ao36 t344.length co36) t344 1 t365 t366 w _ ?side1 ?side2 A54.out).mono ?_);(case side1 => exact bB);(case side2 => exact Kd.R_tight rfl HO_348001.out);rintro e w65 ⟨rfl, hy0, hb, hkp⟩;refine ⟨_, rfl, ?_⟩;have n0_ := Aside0.mk (Kd.R_mono (ok' := fun k_ => ¬ P8_ k_ ∧ ¬ P9_ k_) (Kd.R_keptB HO_10.out hkp (fun k_ hk_ hs_ => hk_.2.2 hs_)) (fun k_ hk_ => ⟨hk_.1.1, hk_.1.2.1⟩));have n1_ := Aside0.mk (Kd.S_mono (ok' := fun k_ => P8_ k_ ∧ ¬ P9_ k_) (Kd.S_keptB (Kd.S_apart' HO_13.out (Kd.R_typed HO_348001.out) (by decide)) hkp (fun k_ hk_ hs_ => hk_.2 hs_)) (fun k_ hk_ => hk_.1.1));have n2_ := Aside0.mk (Kd.R_mono (ok' := fun k_ => P9_ k_) (Kd.R_keptB (Kd.R_apart' HO_14.out (Kd.R_typed HO_348001.out) (by decide)) hkp (fun k_ hk_ hs_ => hk_.2 hs_)) (fun k_ hk_ => hk_.1.1));have n3_ := Aside0.mk (Kd.R_reok rfl hy0 (fun k_ e_ => HO_348001.out.1 k_ e_));have n4_ := Aside0.mk (blk_kept (by exact kP BK329.out) hkp (fun hs_ => (fun e_ => (Kd.R_ne HO_348001.out BK329.out (by decide)) e_) hs_));have n5_ := Aside0.mk (blk_kept (by exact kP BK347.out) hkp (fun hs_ => (fun e_ => (Kd.R_ne HO_348001.out BK347.out (by decide)) e_) hs_));have n6_ := Aside0.mk (Kd.R_mono (ok' := fun k_ => some k_ ≠ (.slice Ao36 t344.length co36 : Value).ownBlock) (Kd.R_keptB (HO359.out) hkp (fun k_ hk_ hs_ => (hk_.2) hs_)) (fun k_ hk_ => hk_.1.2));have n7_ := Aside0.mk (True.intro);have n8_ := Aside0.mk (hb);clear HO_10;clear HO_13;clear HO_14;clear HO_348001;clear BK329;clear BK347;clear HO359;clear HO363;clear HB;have HO_10 := n0_;have HO_13 := n1_;have HO_14 := n2_;have HO_348001 := n3_;have BK329 := n4_;have BK347 := n5_;have HO359 := n6_;have HO363 := n7_;have HB := n8_;clear n0_ n1_ n2_ n3_ n4_ n5_ n6_ n7_ n8_;(try clear hb);(try clear hkp);(try clear hy0)) | ((with_reducible refine gate_callee (f := 21) rfl ?_);refine goesL_ (some 77) rfl rfl Try.func21 (by kernel_rfl) rfl #[.slice Ao39 t348.length co39, .int .i64 t365] rfl mM ?_;(with_reducible refine (laws_markIntSS.calls kj20 ?P9a0 (.slice Ao39 t348.length co39) t348 t365 t367 t368 w _ ?side1 ?side2 A55.out).mono ?_);(case side1 => exact bB);(case side2 => exact mine9 HO_13.out);rintro e w66 ⟨rfl, hy0, hb, hkp⟩;refine ⟨_, rfl, ?_⟩;have n0_ := Aside0.mk (Kd.R_mono (ok' := fun k_ => ¬ P9_ k_) (Kd.R_keptB HO_10.out hkp (fun k_ hk_ hs_ => hk_.1 hs_.1.1)) (fun k_ hk_ => hk_.1.2));have n1_ := Aside0.mk (Kd.S_mono (ok' := fun k_ => True) hy0 (fun _ _ => trivial));have n2_ := Aside0.mk (Kd.R_mono (ok' := fun k_ => P9_ k_) (Kd.R_keptB HO_14.out hkp (fun k_ hk_ hs_ => hs_.1.2 hk_)) (fun k_ hk_ => hk_.1));have n3_ := Aside0.mk (Kd.R_mono (ok' := fun k_ => True) (Kd.R_keptB (mine9_R HO_348001.out (by decide)) hkp (fun k_ hk_ hs_ => hk_ hs_)) (fun k_ hk_ => trivial));have n4_ := Aside0.mk (blk_kept (by exact kP BK329.out) hkp (fun hs_ => mine9_block hs_ BK329.out (by decide)));have n5_ := Aside0.mk (blk_kept (by exact kP BK347.out) hkp (fun hs_ => mine9_block hs_ BK347.out (by decide)));have n6_ := Aside0.mk (Kd.R_mono (ok' := fun k_ => True) (Kd.R_keptB (mine9_R HO359.out (by decide)) hkp (fun k_ hk_ hs_ => hk_ hs_)) (fun k_ hk_ => trivial));have n7_ := Aside0.mk (True.intro);have n8_ := Aside0.mk (hb);clear HO_10;clear HO_13;clear HO_14;clear HO_348001;clear BK329;clear BK347;clear HO359;clear HO363;clear HB;have HO_10 := n0_;have HO_13 := n1_;have HO_14 := n2_;have HO_348001 := n3_;have BK329 := n4_;have BK347 := n5_;have HO359 := n6_;have HO363 := n7_;have HB := n8_;clear n0_ n1_ n2_ n3_ n4_ n5_ n6_ n7_ n8_;(try clear hb);(try clear hkp);(try clear hy0)))
        (try simp only [Act.put, List.setIfInBounds_toArray, List.set_cons_zero, List.set_cons_succ])
        go_cut [90] (fun v90 wc => ∃ (P9_ : Nat → Prop) (kq : Nat) (x90_55 : Bool), v90 = .bool x90_55 ∧ Aside0 (laws_FnExactSavedNodes.j1 kq a1 a2 l3 t339 t342 t351 x90_55 a0_0 l0_1 = some r) ∧ Aside0 (kq ≤ kj20) ∧ Aside0 (Kd.R (Kd.int .i64) 3 wc w.heap.size (fun k_ => ¬ P9_ k_) v340 t339) ∧ Aside0 (Kd.R (Kd.int .i64) 3 wc w.heap.size (fun k_ => P9_ k_) v352 t351) ∧ Aside0 (Kd.R k119 119 wc w.heap.size (fun _ => True) (.slice Ao36 t344.length co36) t366) ∧ Aside0 (wc.heap[gb329]? = some (.cells #[.int .i64 a0_0, (.slice A0_1 l0_1.length c0_1)] 24 (0, 0))) ∧ Aside0 (wc.heap[gb347]? = some (.cells #[.int .i64 t343, (.slice Ao36 t344.length co36)] 31 (0, 0))) ∧ Aside0 (Below w.heap.size w wc))
        case first =>
         have H := HC56.out
         clear HC56
         by_cases c67 : t367 < 0
         ·rw [if_pos c67] at H
          have c67b0 : decide (t367 < 0) = true := decide_eq_true c67
          clear c67
          (first | rw [c67b0] | (simp only [i64_w, i32_w];rw [c67b0]) | skip)
          have H' := Aside0.mk H
          clear H
          go_wp2
          go_meet
          case rel => exact ⟨P9_, _, (true), (by first | rfl | (simp;done) | (simp [*];done)), H', ⟨by have := HJ20.out;first | omega | exact Nat.le_refl _⟩, ⟨by (with_reducible repeat (first | apply Kd.R_alloc | apply Kd.S_alloc | apply Kd.N_alloc | apply Kd.R_drewN | apply Kd.S_drewN | apply Kd.N_drewN | apply Kd.R_drew | apply Kd.S_drew | apply Kd.N_drew));exact HO_10.out⟩, ⟨by (with_reducible repeat (first | apply Kd.R_alloc | apply Kd.S_alloc | apply Kd.N_alloc | apply Kd.R_drewN | apply Kd.S_drewN | apply Kd.N_drewN | apply Kd.R_drew | apply Kd.S_drew | apply Kd.N_drew));exact HO_14.out⟩, ⟨by (with_reducible repeat (first | apply Kd.R_alloc | apply Kd.S_alloc | apply Kd.N_alloc | apply Kd.R_drewN | apply Kd.S_drewN | apply Kd.N_drewN | apply Kd.R_drew | apply Kd.S_drew | apply Kd.N_drew));exact Kd.R_mono HO_348001.out (fun _ hk => trivial)⟩, ⟨by exact kP BK329.out⟩, ⟨by exact kP BK347.out⟩, ⟨by exact bB⟩⟩
         ·rw [if_neg c67] at H
          have c67b0 : decide (t367 < 0) = false := decide_eq_false c67
          clear c67
          (first | rw [c67b0] | (simp only [i64_w, i32_w];rw [c67b0]) | skip)
          replace H := Option.bind_eq_some_iff.mp H
          obtain ⟨t369, A680, H⟩ := H
          replace H : (if t369 = true then (laws_FnExactSavedNodes.j1 kj20 a1 a2 l3 t339 t342 t351 (t354 != t342) a0_0 l0_1) else (laws_FnExactSavedNodes.j1 kj20 a1 a2 l3 t339 t342 t351 true a0_0 l0_1)) = some r := H
          have A68 := Aside0.mk A680
          clear A680
          by_cases c69 : t369 = true
          ·subst c69
           have H1 : (laws_FnExactSavedNodes.j1 kj20 a1 a2 l3 t339 t342 t351 (t354 != t342) a0_0 l0_1) = some r := by rw [if_pos rfl] at H;exact H
           clear H
           have H := H1
           clear H1
           have H' := Aside0.mk H
           clear H
           obtain ⟨Ao70, co70, eo70⟩ := Kd.R_slice HO_14.out
           subst eo70
           obtain ⟨Ao71, co71, eo71⟩ := Kd.R_slice HO_10.out
           subst eo71
           go_wp2_with (first | (go_at_call 17;(with_reducible refine (laws_eqIntS.calls kj20 _ _ t351 _ _ t339 true _ ?side1 ?side2 ?side3 ?side4 A68.out).mono ?_);(case side1 => exact cP (Kd.R_reads' HO_14.out).2.2);(case side2 => exact (Kd.R_reads' HO_14.out).2.1);(case side3 => exact cP (Kd.R_reads' HO_10.out).2.2);(case side4 => exact (Kd.R_reads' HO_10.out).2.1);rintro e w' ⟨rfl, ⟨nd, rfl⟩⟩))
           go_meet
           case rel => exact ⟨P9_, _, ((t354 != t342)), (by first | rfl | (simp;done) | (simp [*];done)), H', ⟨by have := HJ20.out;first | omega | exact Nat.le_refl _⟩, ⟨by (with_reducible repeat (first | apply Kd.R_alloc | apply Kd.S_alloc | apply Kd.N_alloc | apply Kd.R_drewN | apply Kd.S_drewN | apply Kd.N_drewN | apply Kd.R_drew | apply Kd.S_drew | apply Kd.N_drew));exact HO_10.out⟩, ⟨by (with_reducible repeat (first | apply Kd.R_alloc | apply Kd.S_alloc | apply Kd.N_alloc | apply Kd.R_drewN | apply Kd.S_drewN | apply Kd.N_drewN | apply Kd.R_drew | apply Kd.S_drew | apply Kd.N_drew));exact HO_14.out⟩, ⟨by (with_reducible repeat (first | apply Kd.R_alloc | apply Kd.S_alloc | apply Kd.N_alloc | apply Kd.R_drewN | apply Kd.S_drewN | apply Kd.N_drewN | apply Kd.R_drew | apply Kd.S_drew | apply Kd.N_drew));exact Kd.R_mono HO_348001.out (fun _ hk => trivial)⟩, ⟨by exact kP BK329.out⟩, ⟨by exact kP BK347.out⟩, ⟨by exact bB⟩⟩
          ·replace c69 := Bool.eq_false_iff.mpr c69
           subst c69
           have H1 : (laws_FnExactSavedNodes.j1 kj20 a1 a2 l3 t339 t342 t351 true a0_0 l0_1) = some r := by rw [if_neg (show ¬ (false = true) by decide)] at H;exact H
           clear H
           have H := H1
           clear H1
           have H' := Aside0.mk H
           clear H
           obtain ⟨Ao72, co72, eo72⟩ := Kd.R_slice HO_14.out
           subst eo72
           obtain ⟨Ao73, co73, eo73⟩ := Kd.R_slice HO_10.out
           subst eo73
           go_wp2_with (first | (go_at_call 17;(with_reducible refine (laws_eqIntS.calls kj20 _ _ t351 _ _ t339 false _ ?side1 ?side2 ?side3 ?side4 A68.out).mono ?_);(case side1 => exact cP (Kd.R_reads' HO_14.out).2.2);(case side2 => exact (Kd.R_reads' HO_14.out).2.1);(case side3 => exact cP (Kd.R_reads' HO_10.out).2.2);(case side4 => exact (Kd.R_reads' HO_10.out).2.1);rintro e w' ⟨rfl, ⟨nd, rfl⟩⟩))
           go_meet
           case rel => exact ⟨P9_, _, (true), (by first | rfl | (simp;done) | (simp [*];done)), H', ⟨by have := HJ20.out;first | omega | exact Nat.le_refl _⟩, ⟨by (with_reducible repeat (first | apply Kd.R_alloc | apply Kd.S_alloc | apply Kd.N_alloc | apply Kd.R_drewN | apply Kd.S_drewN | apply Kd.N_drewN | apply Kd.R_drew | apply Kd.S_drew | apply Kd.N_drew));exact HO_10.out⟩, ⟨by (with_reducible repeat (first | apply Kd.R_alloc | apply Kd.S_alloc | apply Kd.N_alloc | apply Kd.R_drewN | apply Kd.S_drewN | apply Kd.N_drewN | apply Kd.R_drew | apply Kd.S_drew | apply Kd.N_drew));exact HO_14.out⟩, ⟨by (with_reducible repeat (first | apply Kd.R_alloc | apply Kd.S_alloc | apply Kd.N_alloc | apply Kd.R_drewN | apply Kd.S_drewN | apply Kd.N_drewN | apply Kd.R_drew | apply Kd.S_drew | apply Kd.N_drew));exact Kd.R_mono HO_348001.out (fun _ hk => trivial)⟩, ⟨by exact kP BK329.out⟩, ⟨by exact kP BK347.out⟩, ⟨by exact bB⟩⟩
        case rest =>
         clear HC56
         try clear c1
         try clear c2
         try clear p2
         try clear c3
         try clear c4
         try clear c5
         try clear c6
         try clear c6b0
         try clear c11
         try clear c11b0
         try clear c12
         try clear c13
         try clear c14
         try clear c15
         try clear c16
         try clear c17
         try clear c18
         try clear c19
         try clear c20
         try clear c21
         try clear c34
         try clear c42
         try clear c47
         try clear c50
         try clear c53
         try clear c63
         try clear c67
         try clear c67b0
         try clear c69
         try clear hcz13_0
         try clear hcz13_1
         try clear hcz23_0
         try clear hcz23_1
         try clear hcz25_0
         try clear hcz25_1
         try clear hcz31_0
         try clear hcz31_1
         try clear hcz35_0
         try clear hcz35_1
         try clear hcz38_0
         try clear hcz38_1
         try clear hcz64_0
         try clear hcz64_1
         try clear hcz8_0
         try clear hcz8_1
         try clear hfz13_0
         try clear hfz13_1
         try clear hfz23_0
         try clear hfz23_1
         try clear hfz25_0
         try clear hfz25_1
         try clear hfz31_0
         try clear hfz31_1
         try clear hfz35_0
         try clear hfz35_1
         try clear hfz38_0
         try clear hfz38_1
         try clear hfz64_0
         try clear hfz64_1
         try clear hfz8_0
         try clear hfz8_1
         try clear p2
         obtain ⟨P9_, kq, x90_55, rfl, HA, HJ55, HO_10, HO_14, HO_348001, BK329, BK347, HB⟩ := hcut
         have hl348001_55 := (Kd.R_reads' HO_348001.out).1
         rw [hl348001_55] at HO_348001
         (try simp only [hl348001_55])
         (try simp only [hl348001_55] at BK329)
         (try simp only [hl348001_55] at BK347)
         (try simp only [hl348001_55] at HO_10)
         (try simp only [hl348001_55] at HO_14)
         cases kq with
         | zero => exact absurd HA.out (by simp [laws_FnExactSavedNodes.j1])
         | succ kj55 =>
          have H := HA.out
          clear HA
          simp only [laws_FnExactSavedNodes.j1] at H
          by_cases c74 : x90_55 = true
          ·subst c74
           have H1 : (some false) = some r := by rw [if_pos rfl] at H;exact H
           clear H
           have H := H1
           clear H1
           obtain rfl := Option.some.inj H
           go_wp2
           go_ret
           exact ⟨by first | rfl | (simp [errW_none, errW_some] <;> rfl) | (simp [*, errW_none, errW_some] <;> rfl), by exact bB⟩
          ·replace c74 := Bool.eq_false_iff.mpr c74
           subst c74
           have H1 : ((laws_markIntS.f kj55 t351 1).bind fun bt370 => ((laws_heldIntS.f kj55 bt370.2 1).bind fun t372 => (if t372 < 0 then (some false) else (if t372 = bt370.1 then ((laws_toGraph.f kj55 a0_0 l0_1).bind fun bt373 => ((laws_toIntSS.f kj55 l3).bind fun t377 => ((impl_SavedNodes.f kj55 bt373.1 bt373.2 a1 a2 t377).bind fun bt380 => ((laws_eqIntS.f kj55 bt380.1 t339).bind fun t384 => (if t384 = true then (laws_FnExactSavedNodes.j2 kj55 bt370.2 bt370.1 (bt380.2 != t342)) else (laws_FnExactSavedNodes.j2 kj55 bt370.2 bt370.1 true)))))) else (some false))))) = some r := by rw [if_neg (show ¬ (false = true) by decide)] at H;exact H
           clear H
           have H := H1
           clear H1
           replace H := Option.bind_eq_some_iff.mp H
           obtain ⟨⟨t370, t371⟩, A750, H⟩ := H
           replace H : ((laws_heldIntS.f kj55 t371 1).bind fun t372 => (if t372 < 0 then (some false) else (if t372 = t370 then ((laws_toGraph.f kj55 a0_0 l0_1).bind fun bt373 => ((laws_toIntSS.f kj55 l3).bind fun t377 => ((impl_SavedNodes.f kj55 bt373.1 bt373.2 a1 a2 t377).bind fun bt380 => ((laws_eqIntS.f kj55 bt380.1 t339).bind fun t384 => (if t384 = true then (laws_FnExactSavedNodes.j2 kj55 t371 t370 (bt380.2 != t342)) else (laws_FnExactSavedNodes.j2 kj55 t371 t370 true)))))) else (some false)))) = some r := H
           have A75 := Aside0.mk A750
           clear A750
           replace H := Option.bind_eq_some_iff.mp H
           obtain ⟨t372, A760, H⟩ := H
           replace H : (if t372 < 0 then (some false) else (if t372 = t370 then ((laws_toGraph.f kj55 a0_0 l0_1).bind fun bt373 => ((laws_toIntSS.f kj55 l3).bind fun t377 => ((impl_SavedNodes.f kj55 bt373.1 bt373.2 a1 a2 t377).bind fun bt380 => ((laws_eqIntS.f kj55 bt380.1 t339).bind fun t384 => (if t384 = true then (laws_FnExactSavedNodes.j2 kj55 t371 t370 (bt380.2 != t342)) else (laws_FnExactSavedNodes.j2 kj55 t371 t370 true)))))) else (some false))) = some r := H
           have A76 := Aside0.mk A760
           clear A760
           by_cases c77 : t372 < 0
           ·rw [if_pos c77] at H
            have c77b0 : decide (t372 < 0) = true := decide_eq_true c77
            clear c77
            obtain rfl := Option.some.inj H
            obtain ⟨Ao78, co78, eo78⟩ := Kd.R_slice HO_14.out
            subst eo78
            go_wp2_with (first | ((with_reducible refine gate_callee (f := 22) rfl ?_);refine goesL_ (some 93) rfl rfl Try.func22 (by kernel_rfl) rfl #[.slice Ao78 t351.length co78, .int .i64 1] rfl mM ?_;(with_reducible refine (laws_markIntS.calls kj55 (fun k_ => some k_ = (.slice Ao78 t351.length co78 : Value).ownBlock) (.slice Ao78 t351.length co78) t351 1 t370 t371 w _ ?side1 ?side2 A75.out).mono ?_);(case side1 => exact bB);(case side2 => exact Kd.R_tight rfl HO_14.out);rintro e w79 ⟨rfl, hy0, hb, hkp⟩;refine ⟨_, rfl, ?_⟩;have n0_ := Aside0.mk (Kd.R_mono (ok' := fun k_ => ¬ P9_ k_) (Kd.R_keptB HO_10.out hkp (fun k_ hk_ hs_ => hk_ (HO_14.out.1 k_ hs_.symm))) (fun k_ hk_ => hk_.1));have n1_ := Aside0.mk (Kd.R_reok rfl hy0 (fun k_ e_ => HO_14.out.1 k_ e_));have n2_ := Aside0.mk (Kd.R_mono (ok' := fun k_ => True) (Kd.R_keptB ((Kd.R_apart' HO_348001.out (Kd.R_typed HO_14.out) (by decide))) hkp (fun k_ hk_ hs_ => (hk_.2) hs_)) (fun k_ hk_ => trivial));have n3_ := Aside0.mk (blk_kept (by exact kP BK329.out) hkp (fun hs_ => (fun e_ => (Kd.R_ne HO_14.out BK329.out (by decide)) e_) hs_));have n4_ := Aside0.mk (blk_kept (by exact kP BK347.out) hkp (fun hs_ => (fun e_ => (Kd.R_ne HO_14.out BK347.out (by decide)) e_) hs_));have n5_ := Aside0.mk (hb);clear HO_10;clear HO_14;clear HO_348001;clear BK329;clear BK347;clear HB;have HO_10 := n0_;have HO_14 := n1_;have HO_348001 := n2_;have BK329 := n3_;have BK347 := n4_;have HB := n5_;clear n0_ n1_ n2_ n3_ n4_ n5_;(try clear hb);(try clear hkp);(try clear hy0)) | ((with_reducible refine gate_callee (f := 23) rfl ?_);refine goesL_ (some 96) rfl rfl Try.func23 (by kernel_rfl) rfl #[.slice Ao78 t371.length co78, .int .i64 1] rfl (by (try simp only [List.map_toArray, List.map_cons, List.map_nil]);first | done | (rw [show t371.length = t351.length from (Kd.R_reads' HO_14.out).1.symm] <;> rfl) | rfl | (simp only [List.length_drop, List.length_take];rfl)) ?_;(with_reducible refine (laws_heldIntS.calls kj55 _ _ t371 1 t372 _ ?side1 ?side2 A76.out).mono ?_);(case side1 => exact cP (Kd.R_reads' HO_14.out).2.2);(case side2 => rw [show t371.length = t351.length from (Kd.R_reads' HO_14.out).1.symm];exact (Kd.R_reads' HO_14.out).2.1);rintro e w' ⟨rfl, ⟨nd, rfl⟩⟩;refine ⟨_, rfl, ?_⟩))
            go_ret
            exact ⟨by first | rfl | (simp [errW_none, errW_some] <;> rfl) | (simp [*, errW_none, errW_some] <;> rfl), by exact bB⟩
           ·rw [if_neg c77] at H
            have c77b0 : decide (t372 < 0) = false := decide_eq_false c77
            clear c77
            by_cases c80 : t372 = t370
            ·rw [if_pos c80] at H
             have c80b0 : (t372 == t370) = true := beq_iff_eq.mpr c80
             have c80b1 : (t372 != t370) = false := bne_eq_false_iff_eq.mpr c80
             clear c80
             replace H := Option.bind_eq_some_iff.mp H
             obtain ⟨⟨t373, t374⟩, A810, H⟩ := H
             replace H : ((laws_toIntSS.f kj55 l3).bind fun t377 => ((impl_SavedNodes.f kj55 t373 t374 a1 a2 t377).bind fun bt380 => ((laws_eqIntS.f kj55 bt380.1 t339).bind fun t384 => (if t384 = true then (laws_FnExactSavedNodes.j2 kj55 t371 t370 (bt380.2 != t342)) else (laws_FnExactSavedNodes.j2 kj55 t371 t370 true))))) = some r := H
             have A81 := Aside0.mk A810
             clear A810
             replace H := Option.bind_eq_some_iff.mp H
             obtain ⟨t377, A820, H⟩ := H
             replace H : ((impl_SavedNodes.f kj55 t373 t374 a1 a2 t377).bind fun bt380 => ((laws_eqIntS.f kj55 bt380.1 t339).bind fun t384 => (if t384 = true then (laws_FnExactSavedNodes.j2 kj55 t371 t370 (bt380.2 != t342)) else (laws_FnExactSavedNodes.j2 kj55 t371 t370 true)))) = some r := H
             have A82 := Aside0.mk A820
             clear A820
             replace H := Option.bind_eq_some_iff.mp H
             obtain ⟨⟨t380, t383⟩, A830, H⟩ := H
             replace H : ((laws_eqIntS.f kj55 t380 t339).bind fun t384 => (if t384 = true then (laws_FnExactSavedNodes.j2 kj55 t371 t370 (t383 != t342)) else (laws_FnExactSavedNodes.j2 kj55 t371 t370 true))) = some r := H
             have A83 := Aside0.mk A830
             clear A830
             have HC84 := Aside0.mk H
             clear H
             obtain ⟨Ao85, co85, eo85⟩ := Kd.R_slice HO_14.out
             subst eo85
             go_upto_region 32 with (first | ((with_reducible refine gate_callee (f := 22) rfl ?_);refine goesL_ (some 93) rfl rfl Try.func22 (by kernel_rfl) rfl #[.slice Ao85 t351.length co85, .int .i64 1] rfl mM ?_;(with_reducible refine (laws_markIntS.calls kj55 (fun k_ => some k_ = (.slice Ao85 t351.length co85 : Value).ownBlock) (.slice Ao85 t351.length co85) t351 1 t370 t371 w _ ?side1 ?side2 A75.out).mono ?_);(case side1 => exact bB);(case side2 => exact Kd.R_tight rfl HO_14.out);rintro e w86 ⟨rfl, hy0, hb, hkp⟩;refine ⟨_, rfl, ?_⟩;have n0_ := Aside0.mk (Kd.R_mono (ok' := fun k_ => ¬ P9_ k_) (Kd.R_keptB HO_10.out hkp (fun k_ hk_ hs_ => hk_ (HO_14.out.1 k_ hs_.symm))) (fun k_ hk_ => hk_.1));have n1_ := Aside0.mk (Kd.R_reok rfl hy0 (fun k_ e_ => HO_14.out.1 k_ e_));have n2_ := Aside0.mk (Kd.R_mono (ok' := fun k_ => True) (Kd.R_keptB ((Kd.R_apart' HO_348001.out (Kd.R_typed HO_14.out) (by decide))) hkp (fun k_ hk_ hs_ => (hk_.2) hs_)) (fun k_ hk_ => trivial));have n3_ := Aside0.mk (blk_kept (by exact kP BK329.out) hkp (fun hs_ => (fun e_ => (Kd.R_ne HO_14.out BK329.out (by decide)) e_) hs_));have n4_ := Aside0.mk (blk_kept (by exact kP BK347.out) hkp (fun hs_ => (fun e_ => (Kd.R_ne HO_14.out BK347.out (by decide)) e_) hs_));have n5_ := Aside0.mk (hb);clear HO_10;clear HO_14;clear HO_348001;clear BK329;clear BK347;clear HB;have HO_10 := n0_;have HO_14 := n1_;have HO_348001 := n2_;have BK329 := n3_;have BK347 := n4_;have HB := n5_;clear n0_ n1_ n2_ n3_ n4_ n5_;(try clear hb);(try clear hkp);(try clear hy0)) | ((with_reducible refine gate_callee (f := 23) rfl ?_);refine goesL_ (some 96) rfl rfl Try.func23 (by kernel_rfl) rfl #[.slice Ao85 t371.length co85, .int .i64 1] rfl (by (try simp only [List.map_toArray, List.map_cons, List.map_nil]);first | done | (rw [show t371.length = t351.length from (Kd.R_reads' HO_14.out).1.symm] <;> rfl) | rfl | (simp only [List.length_drop, List.length_take];rfl)) ?_;(with_reducible refine (laws_heldIntS.calls kj55 _ _ t371 1 t372 _ ?side1 ?side2 A76.out).mono ?_);(case side1 => exact cP (Kd.R_reads' HO_14.out).2.2);(case side2 => rw [show t371.length = t351.length from (Kd.R_reads' HO_14.out).1.symm];exact (Kd.R_reads' HO_14.out).2.1);rintro e w' ⟨rfl, ⟨nd, rfl⟩⟩;refine ⟨_, rfl, ?_⟩;have hnb87 := NB329_347.out;have hnc87 := NB347_329.out;have hcz88_0 : w86.cell? ⟨gb329, 0, none⟩ = some (.int .i64 a0_0) := (blk_cell BK329.out 0).trans rfl;have hcz88_1 : w86.cell? ⟨gb329, 1, none⟩ = some (.slice A0_1 l0_1.length c0_1) := (blk_cell BK329.out 1).trans rfl;have hfz88_0 := blk_frozen BK329.out 0;have hfz88_1 := blk_frozen BK329.out 1) | ((with_reducible refine gate_callee (f := 14) rfl ?_);refine goesL_ (some 104) rfl rfl Try.func14 (by kernel_rfl) rfl #[.agg #[.int .i64 a0_0, .slice A0_1 l0_1.length c0_1]] rfl mM ?_;(with_reducible refine (laws_toGraph.calls kj55 a0_0 _ _ l0_1 t373 t374 _ ?side1 ?side2 A81.out).mono ?_);(case side1 => exact cP (Kd.C_below HR0_1.out (by repeat (first | (with_reducible first | exact HB.out | apply below_alloc | apply pw_below_drewN | apply below_drew1 | refine below_set ?_ GE329.out | refine below_set ?_ GE347.out) | exact HB.out))));(case side2 => exact HC0_1.out);rintro e w89 ⟨v375, rfl, ho0, hb⟩;refine ⟨_, rfl, ?_⟩;have n0_ := Aside0.mk (Kd.R_below (by (with_reducible repeat (first | apply Kd.R_alloc | apply Kd.S_alloc | apply Kd.N_alloc | apply Kd.R_drewN | apply Kd.S_drewN | apply Kd.N_drewN | apply Kd.R_drew | apply Kd.S_drew | apply Kd.N_drew));exact HO_10.out) hb);have n1_ := Aside0.mk (Kd.R_below (by (with_reducible repeat (first | apply Kd.R_alloc | apply Kd.S_alloc | apply Kd.N_alloc | apply Kd.R_drewN | apply Kd.S_drewN | apply Kd.N_drewN | apply Kd.R_drew | apply Kd.S_drew | apply Kd.N_drew));exact HO_14.out) hb);have n2_ := Aside0.mk (Kd.R_elder' (by (with_reducible repeat (first | apply Kd.R_alloc | apply Kd.S_alloc | apply Kd.N_alloc | apply Kd.R_drewN | apply Kd.S_drewN | apply Kd.N_drewN | apply Kd.R_drew | apply Kd.S_drew | apply Kd.N_drew));exact HO_348001.out) (Kd.R_base ho0) hb);have n3_ := Aside0.mk (Kd.R_lower (Kd.R_new' ho0 (Kd.R_lt (by (with_reducible repeat (first | apply Kd.R_alloc | apply Kd.S_alloc | apply Kd.N_alloc | apply Kd.R_drewN | apply Kd.S_drewN | apply Kd.N_drewN | apply Kd.R_drew | apply Kd.S_drew | apply Kd.N_drew));exact HO_348001.out))) (below_size (by exact bB)));have n4_ := Aside0.mk (blk_below (g := gb329) (o := .cells #[.int .i64 a0_0, .slice A0_1 l0_1.length c0_1] 24 (0, 0)) (by exact kP BK329.out) hb);have n5_ := Aside0.mk (blk_below (g := gb347) (o := .cells #[.int .i64 t343, .slice Ao36 t366.length co36] 31 (0, 0)) (by exact kP BK347.out) hb);have n6_ := Aside0.mk (below_step (by exact bB) hb);clear HO_10;clear HO_14;clear HO_348001;clear BK329;clear BK347;clear HB;have HO_10 := n0_;have HO_14 := n1_;have HO_348001 := n2_;have HO376 := n3_;have BK329 := n4_;have BK347 := n5_;have HB := n6_;clear n0_ n1_ n2_ n3_ n4_ n5_ n6_;(try clear hb);(try clear hb2);(try clear hk);(try clear hi);(try clear ho0)) | ((with_reducible refine gate_callee (f := 15) rfl ?_);refine goesL_ (some 108) rfl rfl Try.func15 (by kernel_rfl) rfl #[.slice A3 l3.length c3] rfl mM ?_;(with_reducible refine (laws_toIntSS.calls kj55 _ _ l3 t377 _ ?side1 ?side2 A82.out).mono ?_);(case side1 => exact cP (Kd.C_below HR3.out HB.out));(case side2 => exact HC3.out);rintro e w90 ⟨v378, rfl, ho0, hb⟩;refine ⟨_, rfl, ?_⟩;have n0_ := Aside0.mk (Kd.R_below (by (with_reducible repeat (first | apply Kd.R_alloc | apply Kd.S_alloc | apply Kd.N_alloc | apply Kd.R_drewN | apply Kd.S_drewN | apply Kd.N_drewN | apply Kd.R_drew | apply Kd.S_drew | apply Kd.N_drew));exact HO_10.out) hb);have n1_ := Aside0.mk (Kd.R_below (by (with_reducible repeat (first | apply Kd.R_alloc | apply Kd.S_alloc | apply Kd.N_alloc | apply Kd.R_drewN | apply Kd.S_drewN | apply Kd.N_drewN | apply Kd.R_drew | apply Kd.S_drew | apply Kd.N_drew));exact HO_14.out) hb);have n2_ := Aside0.mk (Kd.R_below (by (with_reducible repeat (first | apply Kd.R_alloc | apply Kd.S_alloc | apply Kd.N_alloc | apply Kd.R_drewN | apply Kd.S_drewN | apply Kd.N_drewN | apply Kd.R_drew | apply Kd.S_drew | apply Kd.N_drew));exact HO_348001.out) hb);have n3_ := Aside0.mk (Kd.R_below (by (with_reducible repeat (first | apply Kd.R_alloc | apply Kd.S_alloc | apply Kd.N_alloc | apply Kd.R_drewN | apply Kd.S_drewN | apply Kd.N_drewN | apply Kd.R_drew | apply Kd.S_drew | apply Kd.N_drew));exact HO376.out) hb);have n4_ := Aside0.mk (Kd.S_lower ho0 (below_size (by exact bB)));have n5_ := Aside0.mk (blk_below (g := gb329) (o := .cells #[.int .i64 a0_0, .slice A0_1 l0_1.length c0_1] 24 (0, 0)) (by exact kP BK329.out) hb);have n6_ := Aside0.mk (blk_below (g := gb347) (o := .cells #[.int .i64 t343, .slice Ao36 t366.length co36] 31 (0, 0)) (by exact kP BK347.out) hb);have n7_ := Aside0.mk (below_step (by exact bB) hb);clear HO_10;clear HO_14;clear HO_348001;clear HO376;clear BK329;clear BK347;clear HB;have HO_10 := n0_;have HO_14 := n1_;have HO_348001 := n2_;have HO376 := n3_;have HO379 := n4_;have BK329 := n5_;have BK347 := n6_;have HB := n7_;clear n0_ n1_ n2_ n3_ n4_ n5_ n6_ n7_;(try clear hb);(try clear hb2);(try clear hk);(try clear hi);(try clear ho0);obtain ⟨Ao91, co91, eo91⟩ := Kd.R_slice HO376.out;subst eo91;obtain ⟨Ao92, co92, eo92⟩ := Kd.S_slice HO379.out;subst eo92) | ((with_reducible refine gate_callee (f := 16) rfl ?_);refine goesL_ (some 109) rfl rfl Try.func16 (by kernel_rfl) rfl #[.agg #[.int .i64 t373, .slice Ao91 t374.length co91], .int .i64 a1, .int .i64 a2, .slice Ao92 t377.length co92] rfl mM ?_;(with_reducible refine (impl_SavedNodes.calls kj55 t373 _ _ t374 a1 a2 _ _ t377 t380 t383 _ ?side1 ?side2 ?side3 ?side4 A83.out).mono ?_);(case side1 => exact cP (Kd.R_reads' HO376.out).2.2);(case side2 => exact (Kd.R_reads' HO376.out).2.1);(case side3 => exact cP (Kd.S_reads' HO379.out).2.2);(case side4 => exact (Kd.S_reads' HO379.out).2.1);rintro e w93 ⟨v381, rfl, ho0, hb⟩;refine ⟨_, rfl, ?_⟩;have n0_ := Aside0.mk (Kd.R_elder' (by (with_reducible repeat (first | apply Kd.R_alloc | apply Kd.S_alloc | apply Kd.N_alloc | apply Kd.R_drewN | apply Kd.S_drewN | apply Kd.N_drewN | apply Kd.R_drew | apply Kd.S_drew | apply Kd.N_drew));exact HO_10.out) (Kd.R_base ho0) hb);have n1_ := Aside0.mk (Kd.R_elder' (by (with_reducible repeat (first | apply Kd.R_alloc | apply Kd.S_alloc | apply Kd.N_alloc | apply Kd.R_drewN | apply Kd.S_drewN | apply Kd.N_drewN | apply Kd.R_drew | apply Kd.S_drew | apply Kd.N_drew));exact HO_14.out) (Kd.R_base ho0) hb);have n2_ := Aside0.mk (Kd.R_below (by (with_reducible repeat (first | apply Kd.R_alloc | apply Kd.S_alloc | apply Kd.N_alloc | apply Kd.R_drewN | apply Kd.S_drewN | apply Kd.N_drewN | apply Kd.R_drew | apply Kd.S_drew | apply Kd.N_drew));exact HO_348001.out) hb);have n3_ := Aside0.mk (Kd.R_below (by (with_reducible repeat (first | apply Kd.R_alloc | apply Kd.S_alloc | apply Kd.N_alloc | apply Kd.R_drewN | apply Kd.S_drewN | apply Kd.N_drewN | apply Kd.R_drew | apply Kd.S_drew | apply Kd.N_drew));exact HO376.out) hb);have n4_ := Aside0.mk (Kd.S_below (by (with_reducible repeat (first | apply Kd.R_alloc | apply Kd.S_alloc | apply Kd.N_alloc | apply Kd.R_drewN | apply Kd.S_drewN | apply Kd.N_drewN | apply Kd.R_drew | apply Kd.S_drew | apply Kd.N_drew));exact HO379.out) hb);have n5_ := Aside0.mk (Kd.R_lower (Kd.R_new' (Kd.R_new' ho0 (Kd.R_lt (by (with_reducible repeat (first | apply Kd.R_alloc | apply Kd.S_alloc | apply Kd.N_alloc | apply Kd.R_drewN | apply Kd.S_drewN | apply Kd.N_drewN | apply Kd.R_drew | apply Kd.S_drew | apply Kd.N_drew));exact HO_10.out))) (Kd.R_lt (by (with_reducible repeat (first | apply Kd.R_alloc | apply Kd.S_alloc | apply Kd.N_alloc | apply Kd.R_drewN | apply Kd.S_drewN | apply Kd.N_drewN | apply Kd.R_drew | apply Kd.S_drew | apply Kd.N_drew));exact HO_14.out))) (below_size (by exact bB)));have n6_ := Aside0.mk (blk_below (g := gb329) (o := .cells #[.int .i64 a0_0, .slice A0_1 l0_1.length c0_1] 24 (0, 0)) (by exact kP BK329.out) hb);have n7_ := Aside0.mk (blk_below (g := gb347) (o := .cells #[.int .i64 t343, .slice Ao36 t366.length co36] 31 (0, 0)) (by exact kP BK347.out) hb);have n8_ := Aside0.mk (below_step (by exact bB) hb);clear HO_10;clear HO_14;clear HO_348001;clear HO376;clear HO379;clear BK329;clear BK347;clear HB;have HO_10 := n0_;have HO_14 := n1_;have HO_348001 := n2_;have HO376 := n3_;have HO379 := n4_;have HO382 := n5_;have BK329 := n6_;have BK347 := n7_;have HB := n8_;clear n0_ n1_ n2_ n3_ n4_ n5_ n6_ n7_ n8_;(try clear hb);(try clear hb2);(try clear hk);(try clear hi);(try clear ho0)))
             (try simp only [Act.put, List.setIfInBounds_toArray, List.set_cons_zero, List.set_cons_succ])
             go_cut [120] (fun v120 wc => ∃ (kq : Nat) (x120_83 : Bool), v120 = .bool x120_83 ∧ Aside0 (laws_FnExactSavedNodes.j2 kq t371 t370 x120_83 = some r) ∧ Aside0 (kq ≤ kj55) ∧ Aside0 (Kd.R (Kd.int .i64) 3 wc w.heap.size (fun k_ => True) (.slice Ao85 t351.length co85) t371) ∧ Aside0 (Kd.R k119 119 wc w.heap.size (fun _ => True) (.slice Ao36 t366.length co36) t366) ∧ Aside0 (wc.heap[gb329]? = some (.cells #[.int .i64 a0_0, (.slice A0_1 l0_1.length c0_1)] 24 (0, 0))) ∧ Aside0 (wc.heap[gb347]? = some (.cells #[.int .i64 t343, (.slice Ao36 t366.length co36)] 31 (0, 0))) ∧ Aside0 (Below w.heap.size w wc))
             case first =>
              have H := HC84.out
              clear HC84
              replace H := Option.bind_eq_some_iff.mp H
              obtain ⟨t384, A940, H⟩ := H
              replace H : (if t384 = true then (laws_FnExactSavedNodes.j2 kj55 t371 t370 (t383 != t342)) else (laws_FnExactSavedNodes.j2 kj55 t371 t370 true)) = some r := H
              have A94 := Aside0.mk A940
              clear A940
              by_cases c95 : t384 = true
              ·subst c95
               have H1 : (laws_FnExactSavedNodes.j2 kj55 t371 t370 (t383 != t342)) = some r := by rw [if_pos rfl] at H;exact H
               clear H
               have H := H1
               clear H1
               have H' := Aside0.mk H
               clear H
               obtain ⟨Ao96, co96, eo96⟩ := Kd.R_slice HO382.out
               subst eo96
               obtain ⟨Ao97, co97, eo97⟩ := Kd.R_slice HO_10.out
               subst eo97
               go_wp2_with (first | ((with_reducible refine gate_callee (f := 17) rfl ?_);refine goesL_ (some 114) rfl rfl Try.func17 (by kernel_rfl) rfl #[.slice Ao96 t380.length co96, .slice Ao97 t339.length co97] rfl mM ?_;(with_reducible refine (laws_eqIntS.calls kj55 _ _ t380 _ _ t339 true _ ?side1 ?side2 ?side3 ?side4 A94.out).mono ?_);(case side1 => exact cP (Kd.R_reads' HO382.out).2.2);(case side2 => exact (Kd.R_reads' HO382.out).2.1);(case side3 => exact cP (Kd.R_reads' HO_10.out).2.2);(case side4 => exact (Kd.R_reads' HO_10.out).2.1);rintro e w' ⟨rfl, ⟨nd, rfl⟩⟩;refine ⟨_, rfl, ?_⟩))
               go_meet
               case rel => exact ⟨_, ((t383 != t342)), (by first | rfl | (simp;done) | (simp [*];done)), H', ⟨by have := HJ20.out;have := HJ55.out;first | omega | exact Nat.le_refl _⟩, ⟨by (try simp only [hl348001_55]);(with_reducible repeat (first | apply Kd.R_alloc | apply Kd.S_alloc | apply Kd.N_alloc | apply Kd.R_drewN | apply Kd.S_drewN | apply Kd.N_drewN | apply Kd.R_drew | apply Kd.S_drew | apply Kd.N_drew));exact Kd.R_mono HO_14.out (fun _ hk => by first | exact hk | exact hk.2 | exact hk.1 | exact hk.2.1 | exact ⟨hk.1, hk.2.1⟩ | trivial)⟩, ⟨by (try simp only [hl348001_55]);(with_reducible repeat (first | apply Kd.R_alloc | apply Kd.S_alloc | apply Kd.N_alloc | apply Kd.R_drewN | apply Kd.S_drewN | apply Kd.N_drewN | apply Kd.R_drew | apply Kd.S_drew | apply Kd.N_drew));exact Kd.R_mono HO_348001.out (fun _ hk => trivial)⟩, ⟨by (try simp only [hl348001_55]);exact kP BK329.out⟩, ⟨by (try simp only [hl348001_55]);exact kP BK347.out⟩, ⟨by exact bB⟩⟩
              ·replace c95 := Bool.eq_false_iff.mpr c95
               subst c95
               have H1 : (laws_FnExactSavedNodes.j2 kj55 t371 t370 true) = some r := by rw [if_neg (show ¬ (false = true) by decide)] at H;exact H
               clear H
               have H := H1
               clear H1
               have H' := Aside0.mk H
               clear H
               obtain ⟨Ao98, co98, eo98⟩ := Kd.R_slice HO382.out
               subst eo98
               obtain ⟨Ao99, co99, eo99⟩ := Kd.R_slice HO_10.out
               subst eo99
               go_wp2_with (first | ((with_reducible refine gate_callee (f := 17) rfl ?_);refine goesL_ (some 114) rfl rfl Try.func17 (by kernel_rfl) rfl #[.slice Ao98 t380.length co98, .slice Ao99 t339.length co99] rfl mM ?_;(with_reducible refine (laws_eqIntS.calls kj55 _ _ t380 _ _ t339 false _ ?side1 ?side2 ?side3 ?side4 A94.out).mono ?_);(case side1 => exact cP (Kd.R_reads' HO382.out).2.2);(case side2 => exact (Kd.R_reads' HO382.out).2.1);(case side3 => exact cP (Kd.R_reads' HO_10.out).2.2);(case side4 => exact (Kd.R_reads' HO_10.out).2.1);rintro e w' ⟨rfl, ⟨nd, rfl⟩⟩;refine ⟨_, rfl, ?_⟩))
               go_meet
               case rel => exact ⟨_, (true), (by first | rfl | (simp;done) | (simp [*];done)), H', ⟨by have := HJ20.out;have := HJ55.out;first | omega | exact Nat.le_refl _⟩, ⟨by (try simp only [hl348001_55]);(with_reducible repeat (first | apply Kd.R_alloc | apply Kd.S_alloc | apply Kd.N_alloc | apply Kd.R_drewN | apply Kd.S_drewN | apply Kd.N_drewN | apply Kd.R_drew | apply Kd.S_drew | apply Kd.N_drew));exact Kd.R_mono HO_14.out (fun _ hk => by first | exact hk | exact hk.2 | exact hk.1 | exact hk.2.1 | exact ⟨hk.1, hk.2.1⟩ | trivial)⟩, ⟨by (try simp only [hl348001_55]);(with_reducible repeat (first | apply Kd.R_alloc | apply Kd.S_alloc | apply Kd.N_alloc | apply Kd.R_drewN | apply Kd.S_drewN | apply Kd.N_drewN | apply Kd.R_drew | apply Kd.S_drew | apply Kd.N_drew));exact Kd.R_mono HO_348001.out (fun _ hk => trivial)⟩, ⟨by (try simp only [hl348001_55]);exact kP BK329.out⟩, ⟨by (try simp only [hl348001_55]);exact kP BK347.out⟩, ⟨by exact bB⟩⟩
             case rest =>
              clear HC84
              try clear c1
              try clear c2
              try clear p2
              try clear c3
              try clear c4
              try clear c5
              try clear c6
              try clear c6b0
              try clear c7
              try clear c8
              try clear c9
              try clear c11
              try clear c11b0
              try clear c12
              try clear c13
              try clear c14
              try clear c15
              try clear c16
              try clear c17
              try clear c18
              try clear c19
              try clear c20
              try clear c21
              try clear c22
              try clear c23
              try clear c34
              try clear c42
              try clear c47
              try clear c50
              try clear c53
              try clear c63
              try clear c67
              try clear c67b0
              try clear c69
              try clear c74
              try clear c77
              try clear c77b0
              try clear c80
              try clear c80b0
              try clear c80b1
              try clear c87
              try clear c95
              try clear hcz13_0
              try clear hcz13_1
              try clear hcz23_0
              try clear hcz23_1
              try clear hcz25_0
              try clear hcz25_1
              try clear hcz31_0
              try clear hcz31_1
              try clear hcz35_0
              try clear hcz35_1
              try clear hcz38_0
              try clear hcz38_1
              try clear hcz64_0
              try clear hcz64_1
              try clear hcz88_0
              try clear hcz88_1
              try clear hcz8_0
              try clear hcz8_1
              try clear hfz13_0
              try clear hfz13_1
              try clear hfz23_0
              try clear hfz23_1
              try clear hfz25_0
              try clear hfz25_1
              try clear hfz31_0
              try clear hfz31_1
              try clear hfz35_0
              try clear hfz35_1
              try clear hfz38_0
              try clear hfz38_1
              try clear hfz64_0
              try clear hfz64_1
              try clear hfz88_0
              try clear hfz88_1
              try clear hfz8_0
              try clear hfz8_1
              try clear p2
              obtain ⟨kq, x120_83, rfl, HA, HJ83, HO_14, HO_348001, BK329, BK347, HB⟩ := hcut
              have hl14_83 := (Kd.R_reads' HO_14.out).1
              rw [hl14_83] at HO_14
              (try simp only [hl14_83])
              (try simp only [hl14_83] at BK329)
              (try simp only [hl14_83] at BK347)
              (try simp only [hl14_83] at HO_348001)
              cases kq with
              | zero => exact absurd HA.out (by simp [laws_FnExactSavedNodes.j2])
              | succ kj83 =>
               have H := HA.out
               clear HA
               simp only [laws_FnExactSavedNodes.j2] at H
               by_cases c100 : x120_83 = true
               ·subst c100
                have H1 : (some false) = some r := by rw [if_pos rfl] at H;exact H
                clear H
                have H := H1
                clear H1
                obtain rfl := Option.some.inj H
                go_wp2
                go_ret
                exact ⟨by first | rfl | (simp [errW_none, errW_some] <;> rfl) | (simp [*, errW_none, errW_some] <;> rfl), by exact bB⟩
               ·replace c100 := Bool.eq_false_iff.mpr c100
                subst c100
                have H1 : ((laws_heldIntS.f kj83 t371 1).bind fun t385 => (if t385 < 0 then (some false) else (if t385 = t370 then (some true) else (some false)))) = some r := by rw [if_neg (show ¬ (false = true) by decide)] at H;exact H
                clear H
                have H := H1
                clear H1
                replace H := Option.bind_eq_some_iff.mp H
                obtain ⟨t385, A1010, H⟩ := H
                replace H : (if t385 < 0 then (some false) else (if t385 = t370 then (some true) else (some false))) = some r := H
                have A101 := Aside0.mk A1010
                clear A1010
                by_cases c102 : t385 < 0
                ·rw [if_pos c102] at H
                 have c102b0 : decide (t385 < 0) = true := decide_eq_true c102
                 clear c102
                 obtain rfl := Option.some.inj H
                 go_wp2_with (first | ((with_reducible refine gate_callee (f := 23) rfl ?_);refine goesL_ (some 123) rfl rfl Try.func23 (by kernel_rfl) rfl #[.slice Ao85 t371.length co85, .int .i64 1] rfl mM ?_;(with_reducible refine (laws_heldIntS.calls kj83 _ _ t371 1 t385 _ ?side1 ?side2 A101.out).mono ?_);(case side1 => exact cP (Kd.R_reads' HO_14.out).2.2);(case side2 => exact (Kd.R_reads' HO_14.out).2.1);rintro e w' ⟨rfl, ⟨nd, rfl⟩⟩;refine ⟨_, rfl, ?_⟩))
                 go_ret
                 exact ⟨by first | rfl | (simp [errW_none, errW_some] <;> rfl) | (simp [*, errW_none, errW_some] <;> rfl), by exact bB⟩
                ·rw [if_neg c102] at H
                 have c102b0 : decide (t385 < 0) = false := decide_eq_false c102
                 clear c102
                 by_cases c103 : t385 = t370
                 ·rw [if_pos c103] at H
                  have c103b0 : (t385 == t370) = true := beq_iff_eq.mpr c103
                  have c103b1 : (t385 != t370) = false := bne_eq_false_iff_eq.mpr c103
                  clear c103
                  obtain rfl := Option.some.inj H
                  go_wp2_with (first | ((with_reducible refine gate_callee (f := 23) rfl ?_);refine goesL_ (some 123) rfl rfl Try.func23 (by kernel_rfl) rfl #[.slice Ao85 t371.length co85, .int .i64 1] rfl mM ?_;(with_reducible refine (laws_heldIntS.calls kj83 _ _ t371 1 t385 _ ?side1 ?side2 A101.out).mono ?_);(case side1 => exact cP (Kd.R_reads' HO_14.out).2.2);(case side2 => exact (Kd.R_reads' HO_14.out).2.1);rintro e w' ⟨rfl, ⟨nd, rfl⟩⟩;refine ⟨_, rfl, ?_⟩))
                  go_ret
                  exact ⟨by first | rfl | (simp [errW_none, errW_some] <;> rfl) | (simp [*, errW_none, errW_some] <;> rfl), by exact bB⟩
                 ·rw [if_neg c103] at H
                  have c103b0 : (t385 == t370) = false := beq_eq_false_iff_ne.mpr c103
                  have c103b1 : (t385 != t370) = true := bne_iff_ne.mpr c103
                  obtain rfl := Option.some.inj H
                  go_wp2_with (first | ((with_reducible refine gate_callee (f := 23) rfl ?_);refine goesL_ (some 123) rfl rfl Try.func23 (by kernel_rfl) rfl #[.slice Ao85 t371.length co85, .int .i64 1] rfl mM ?_;(with_reducible refine (laws_heldIntS.calls kj83 _ _ t371 1 t385 _ ?side1 ?side2 A101.out).mono ?_);(case side1 => exact cP (Kd.R_reads' HO_14.out).2.2);(case side2 => exact (Kd.R_reads' HO_14.out).2.1);rintro e w' ⟨rfl, ⟨nd, rfl⟩⟩;refine ⟨_, rfl, ?_⟩))
                  go_ret
                  exact ⟨by first | rfl | (simp [errW_none, errW_some] <;> rfl) | (simp [*, errW_none, errW_some] <;> rfl), by exact bB⟩
            ·rw [if_neg c80] at H
             have c80b0 : (t372 == t370) = false := beq_eq_false_iff_ne.mpr c80
             have c80b1 : (t372 != t370) = true := bne_iff_ne.mpr c80
             obtain rfl := Option.some.inj H
             obtain ⟨Ao104, co104, eo104⟩ := Kd.R_slice HO_14.out
             subst eo104
             go_wp2_with (first | ((with_reducible refine gate_callee (f := 22) rfl ?_);refine goesL_ (some 93) rfl rfl Try.func22 (by kernel_rfl) rfl #[.slice Ao104 t351.length co104, .int .i64 1] rfl mM ?_;(with_reducible refine (laws_markIntS.calls kj55 (fun k_ => some k_ = (.slice Ao104 t351.length co104 : Value).ownBlock) (.slice Ao104 t351.length co104) t351 1 t370 t371 w _ ?side1 ?side2 A75.out).mono ?_);(case side1 => exact bB);(case side2 => exact Kd.R_tight rfl HO_14.out);rintro e w105 ⟨rfl, hy0, hb, hkp⟩;refine ⟨_, rfl, ?_⟩;have n0_ := Aside0.mk (Kd.R_mono (ok' := fun k_ => ¬ P9_ k_) (Kd.R_keptB HO_10.out hkp (fun k_ hk_ hs_ => hk_ (HO_14.out.1 k_ hs_.symm))) (fun k_ hk_ => hk_.1));have n1_ := Aside0.mk (Kd.R_reok rfl hy0 (fun k_ e_ => HO_14.out.1 k_ e_));have n2_ := Aside0.mk (Kd.R_mono (ok' := fun k_ => True) (Kd.R_keptB ((Kd.R_apart' HO_348001.out (Kd.R_typed HO_14.out) (by decide))) hkp (fun k_ hk_ hs_ => (hk_.2) hs_)) (fun k_ hk_ => trivial));have n3_ := Aside0.mk (blk_kept (by exact kP BK329.out) hkp (fun hs_ => (fun e_ => (Kd.R_ne HO_14.out BK329.out (by decide)) e_) hs_));have n4_ := Aside0.mk (blk_kept (by exact kP BK347.out) hkp (fun hs_ => (fun e_ => (Kd.R_ne HO_14.out BK347.out (by decide)) e_) hs_));have n5_ := Aside0.mk (hb);clear HO_10;clear HO_14;clear HO_348001;clear BK329;clear BK347;clear HB;have HO_10 := n0_;have HO_14 := n1_;have HO_348001 := n2_;have BK329 := n3_;have BK347 := n4_;have HB := n5_;clear n0_ n1_ n2_ n3_ n4_ n5_;(try clear hb);(try clear hkp);(try clear hy0)) | ((with_reducible refine gate_callee (f := 23) rfl ?_);refine goesL_ (some 96) rfl rfl Try.func23 (by kernel_rfl) rfl #[.slice Ao104 t371.length co104, .int .i64 1] rfl (by (try simp only [List.map_toArray, List.map_cons, List.map_nil]);first | done | (rw [show t371.length = t351.length from (Kd.R_reads' HO_14.out).1.symm] <;> rfl) | rfl | (simp only [List.length_drop, List.length_take];rfl)) ?_;(with_reducible refine (laws_heldIntS.calls kj55 _ _ t371 1 t372 _ ?side1 ?side2 A76.out).mono ?_);(case side1 => exact cP (Kd.R_reads' HO_14.out).2.2);(case side2 => rw [show t371.length = t351.length from (Kd.R_reads' HO_14.out).1.symm];exact (Kd.R_reads' HO_14.out).2.1);rintro e w' ⟨rfl, ⟨nd, rfl⟩⟩;refine ⟨_, rfl, ?_⟩))
             go_ret
             exact ⟨by first | rfl | (simp [errW_none, errW_some] <;> rfl) | (simp [*, errW_none, errW_some] <;> rfl), by exact bB⟩
       ·replace c53 := Bool.eq_false_iff.mpr c53
        subst c53
        have H1 : (some false) = some r := by rw [if_neg (show ¬ (false = true) by decide)] at H;exact H
        clear H
        have H := H1
        clear H1
        obtain rfl := Option.some.inj H
        try go_wp2
        have n0_ := Aside0.mk (Kd.R_drew HO_10.out)
        have n1_ := Aside0.mk (Kd.S_drew HO_13.out)
        have n2_ := Aside0.mk (Kd.R_drew HO_14.out)
        have n3_ := Aside0.mk (Kd.R_drew HO_348001.out)
        have n4_ := Aside0.mk (blk_drew BK329.out)
        have n5_ := Aside0.mk (blk_drew BK347.out)
        have n6_ := Aside0.mk (below_drew1 HB.out)
        clear HO_10
        clear HO_13
        clear HO_14
        clear HO_348001
        clear BK329
        clear BK347
        clear HB
        have HO_10 := n0_
        have HO_13 := n1_
        have HO_14 := n2_
        have HO_348001 := n3_
        have BK329 := n4_
        have BK347 := n5_
        have HB := n6_
        clear n0_ n1_ n2_ n3_ n4_ n5_ n6_
        refine start_ (n := 5) (S := fun w' => w'.cell? ⟨gb347, 0, none⟩ = some (.int .i64 t343) ∧ w'.cell? ⟨gb347, 1, none⟩ = some (.slice Ao36 t344.length co36) ∧ w'.cell? ⟨gb329, 0, none⟩ = some (.int .i64 a0_0) ∧ w'.cell? ⟨gb329, 1, none⟩ = some (.slice A0_1 l0_1.length c0_1)) (ds := []) #[false,false,false,false,false] (by kernel_rfl) rfl rfl ⟨(blk_cell BK347.out 0).trans rfl, (blk_cell BK347.out 1).trans rfl, (blk_cell BK329.out 0).trans rfl, (blk_cell BK329.out 1).trans rfl⟩ (fun hHeld => ?_)
        generalize wc.drew = w106 at HO_10 HO_13 HO_14 HO_348001 BK329 BK347 HB hHeld ⊢
        refine take_ (i := 0) (N := some 62) (v := ?_) (a' := ?_) #[true,false,false,false,false] rfl rfl (by kernel_rfl) (fun _ _ _ h => h) (Or.inl ⟨by rfl, ?_⟩) hHeld ?_ ?_
        rotate_left
        ·rintro w' ⟨s0, s1, s2, s3⟩
         go_simp
         with_reducible rfl
        rotate_left
        ·simp only [Act.put, List.setIfInBounds_toArray, List.set_cons_zero, List.set_cons_succ, i64_w, i32_w]
         rfl
        refine take_ (i := 1) (N := some 63) (v := ?_) (a' := ?_) #[true,true,false,false,false] rfl rfl (by kernel_rfl) (fun _ _ _ h => h) (Or.inl ⟨by rfl, ?_⟩) hHeld ?_ ?_
        rotate_left
        ·rintro w' ⟨s0, s1, s2, s3⟩
         go_simp
         with_reducible rfl
        rotate_left
        ·simp only [Act.put, List.setIfInBounds_toArray, List.set_cons_zero, List.set_cons_succ, i64_w, i32_w]
         rfl
        refine one_ (i := 2) (N := some 64) #[true,true,true,false,false] rfl rfl (by kernel_rfl) (by decide) (fun K hK => ?_)
        refine goes_ Try.func14 (by kernel_rfl) rfl #[.agg #[.int .i64 a0_0, .slice A0_1 l0_1.length c0_1]] (by rfl) rfl rfl mM ?_
        with_reducible refine (laws_toGraph.calls kj20 a0_0 _ _ l0_1 t356 t357 _ ?side1 ?side2 A48.out).mono ?_
        (case side1 => exact cP (Kd.C_below HR0_1.out HB.out))
        (case side2 => exact HC0_1.out)
        rintro e w107 ⟨v358, rfl, ho0, hb⟩
        refine ⟨_, rfl, ?_⟩
        have n0_ := Aside0.mk (Kd.R_below (by (with_reducible repeat (first | apply Kd.R_alloc | apply Kd.S_alloc | apply Kd.N_alloc | apply Kd.R_drewN | apply Kd.S_drewN | apply Kd.N_drewN | apply Kd.R_drew | apply Kd.S_drew | apply Kd.N_drew));exact HO_10.out) hb)
        have n1_ := Aside0.mk (Kd.S_below (by (with_reducible repeat (first | apply Kd.R_alloc | apply Kd.S_alloc | apply Kd.N_alloc | apply Kd.R_drewN | apply Kd.S_drewN | apply Kd.N_drewN | apply Kd.R_drew | apply Kd.S_drew | apply Kd.N_drew));exact HO_13.out) hb)
        have n2_ := Aside0.mk (Kd.R_below (by (with_reducible repeat (first | apply Kd.R_alloc | apply Kd.S_alloc | apply Kd.N_alloc | apply Kd.R_drewN | apply Kd.S_drewN | apply Kd.N_drewN | apply Kd.R_drew | apply Kd.S_drew | apply Kd.N_drew));exact HO_14.out) hb)
        have n3_ := Aside0.mk (Kd.R_elder' (by (with_reducible repeat (first | apply Kd.R_alloc | apply Kd.S_alloc | apply Kd.N_alloc | apply Kd.R_drewN | apply Kd.S_drewN | apply Kd.N_drewN | apply Kd.R_drew | apply Kd.S_drew | apply Kd.N_drew));exact HO_348001.out) (Kd.R_base ho0) hb)
        have n4_ := Aside0.mk (Kd.R_lower (Kd.R_new' ho0 (Kd.R_lt (by (with_reducible repeat (first | apply Kd.R_alloc | apply Kd.S_alloc | apply Kd.N_alloc | apply Kd.R_drewN | apply Kd.S_drewN | apply Kd.N_drewN | apply Kd.R_drew | apply Kd.S_drew | apply Kd.N_drew));exact HO_348001.out))) (below_size (by exact bB)))
        have n5_ := Aside0.mk (blk_below (g := gb329) (o := .cells #[.int .i64 a0_0, .slice A0_1 l0_1.length c0_1] 24 (0, 0)) (by exact kP BK329.out) hb)
        have n6_ := Aside0.mk (blk_below (g := gb347) (o := .cells #[.int .i64 t343, .slice Ao36 t344.length co36] 31 (0, 0)) (by exact kP BK347.out) hb)
        have n7_ := Aside0.mk (below_step (by exact bB) hb)
        clear HO_10
        clear HO_13
        clear HO_14
        clear HO_348001
        clear BK329
        clear BK347
        clear HB
        have HO_10 := n0_
        have HO_13 := n1_
        have HO_14 := n2_
        have HO_348001 := n3_
        have HO359 := n4_
        have BK329 := n5_
        have BK347 := n6_
        have HB := n7_
        clear n0_ n1_ n2_ n3_ n4_ n5_ n6_ n7_
        (try clear hb)
        (try clear hb2)
        (try clear hk)
        (try clear hi)
        (try clear ho0)
        obtain ⟨Ao108, co108, eo108⟩ := Kd.R_slice HO359.out
        (first | subst eo108 | (injection eo108 with f1_ f2_ f3_;have f4_ := f1_.symm;have f5_ := f3_.symm;clear f1_ f2_ f3_;subst f4_;subst f5_))
        refine hK.out _ _ ⟨(blk_cell BK347.out 0).trans rfl, (blk_cell BK347.out 1).trans rfl, (blk_cell BK329.out 0).trans rfl, (blk_cell BK329.out 1).trans rfl⟩ (fun hHeld => ?_)
        clear hK K
        refine norm_ (a' := ?_) ?_ ?_
        rotate_left
        ·show Act.put _ (some 64) _ = _
         simp only [Act.put, List.setIfInBounds_toArray, List.set_cons_zero, List.set_cons_succ, i64_w, i32_w]
         rfl
        refine one_ (i := 3) (N := some 65) #[true,true,true,true,false] rfl rfl (by kernel_rfl) (by decide) (fun K hK => ?_)
        refine goes_ Try.func18 (by kernel_rfl) rfl #[.agg #[.int .i64 t343, .slice Ao36 t344.length co36], .agg #[.int .i64 t356, .slice Ao108 t357.length co108]] (by rfl) rfl rfl mM ?_
        with_reducible refine (laws_eqGraph.calls kj20 t343 _ _ t344 t356 _ _ t357 true _ ?side1 ?side2 ?side3 ?side4 A49.out).mono ?_
        (case side1 => exact cP (Kd.R_reads' HO_348001.out).2.2)
        (case side2 => exact (Kd.R_reads' HO_348001.out).2.1)
        (case side3 => exact cP (Kd.R_reads' HO359.out).2.2)
        (case side4 => exact (Kd.R_reads' HO359.out).2.1)
        rintro e w109 ⟨rfl, hb⟩
        refine ⟨_, rfl, ?_⟩
        have n0_ := Aside0.mk (Kd.R_below (by (with_reducible repeat (first | apply Kd.R_alloc | apply Kd.S_alloc | apply Kd.N_alloc | apply Kd.R_drewN | apply Kd.S_drewN | apply Kd.N_drewN | apply Kd.R_drew | apply Kd.S_drew | apply Kd.N_drew));exact HO_10.out) hb)
        have n1_ := Aside0.mk (Kd.S_below (by (with_reducible repeat (first | apply Kd.R_alloc | apply Kd.S_alloc | apply Kd.N_alloc | apply Kd.R_drewN | apply Kd.S_drewN | apply Kd.N_drewN | apply Kd.R_drew | apply Kd.S_drew | apply Kd.N_drew));exact HO_13.out) hb)
        have n2_ := Aside0.mk (Kd.R_below (by (with_reducible repeat (first | apply Kd.R_alloc | apply Kd.S_alloc | apply Kd.N_alloc | apply Kd.R_drewN | apply Kd.S_drewN | apply Kd.N_drewN | apply Kd.R_drew | apply Kd.S_drew | apply Kd.N_drew));exact HO_14.out) hb)
        have n3_ := Aside0.mk (Kd.R_below (by (with_reducible repeat (first | apply Kd.R_alloc | apply Kd.S_alloc | apply Kd.N_alloc | apply Kd.R_drewN | apply Kd.S_drewN | apply Kd.N_drewN | apply Kd.R_drew | apply Kd.S_drew | apply Kd.N_drew));exact HO_348001.out) hb)
        have n4_ := Aside0.mk (Kd.R_below (by (with_reducible repeat (first | apply Kd.R_alloc | apply Kd.S_alloc | apply Kd.N_alloc | apply Kd.R_drewN | apply Kd.S_drewN | apply Kd.N_drewN | apply Kd.R_drew | apply Kd.S_drew | apply Kd.N_drew));exact HO359.out) hb)
        have n5_ := Aside0.mk (blk_below (g := gb329) (o := .cells #[.int .i64 a0_0, .slice A0_1 l0_1.length c0_1] 24 (0, 0)) (by exact kP BK329.out) hb)
        have n6_ := Aside0.mk (blk_below (g := gb347) (o := .cells #[.int .i64 t343, .slice Ao36 t344.length co36] 31 (0, 0)) (by exact kP BK347.out) hb)
        have n7_ := Aside0.mk (below_step (by exact bB) hb)
        clear HO_10
        clear HO_13
        clear HO_14
        clear HO_348001
        clear HO359
        clear BK329
        clear BK347
        clear HB
        have HO_10 := n0_
        have HO_13 := n1_
        have HO_14 := n2_
        have HO_348001 := n3_
        have HO359 := n4_
        have BK329 := n5_
        have BK347 := n6_
        have HB := n7_
        clear n0_ n1_ n2_ n3_ n4_ n5_ n6_ n7_
        (try clear hb)
        (try clear hb2)
        (try clear hk)
        (try clear hi)
        refine hK.out _ _ ⟨(blk_cell BK347.out 0).trans rfl, (blk_cell BK347.out 1).trans rfl, (blk_cell BK329.out 0).trans rfl, (blk_cell BK329.out 1).trans rfl⟩ (fun hHeld => ?_)
        clear hK K
        refine norm_ (a' := ?_) ?_ ?_
        rotate_left
        ·show Act.put _ (some 65) _ = _
         simp only [Act.put, List.setIfInBounds_toArray, List.set_cons_zero, List.set_cons_succ, i64_w, i32_w]
         rfl
        refine pure_ (i := 4) (N := some 66) (v := ?_) (a' := ?_) #[true,true,true,true,true] rfl rfl (by kernel_rfl) (fun _ _ _ h => h) (Or.inl ⟨by rfl, ?_⟩) ?_ ?_
        rotate_left
        ·intro w'
         go_simp
         with_reducible rfl
        rotate_left
        ·simp only [Act.put, List.setIfInBounds_toArray, List.set_cons_zero, List.set_cons_succ, i64_w, i32_w]
         rfl
        refine done_ (by kernel_rfl) ?_
        try go_wp2_with (first | ((with_reducible refine gate_callee (f := 15) rfl ?_);refine goesL_ (some 69) rfl rfl Try.func15 (by kernel_rfl) rfl #[.slice A3 l3.length c3] rfl mM ?_;(with_reducible refine (laws_toIntSS.calls kj20 _ _ l3 t361 _ ?side1 ?side2 A51.out).mono ?_);(case side1 => exact cP (Kd.C_below HR3.out HB.out));(case side2 => exact HC3.out);rintro e w110 ⟨v362, rfl, ho0, hb⟩;refine ⟨_, rfl, ?_⟩;have n0_ := Aside0.mk (Kd.R_below (by (with_reducible repeat (first | apply Kd.R_alloc | apply Kd.S_alloc | apply Kd.N_alloc | apply Kd.R_drewN | apply Kd.S_drewN | apply Kd.N_drewN | apply Kd.R_drew | apply Kd.S_drew | apply Kd.N_drew));exact HO_10.out) hb);have n1_ := Aside0.mk (Kd.S_below (by (with_reducible repeat (first | apply Kd.R_alloc | apply Kd.S_alloc | apply Kd.N_alloc | apply Kd.R_drewN | apply Kd.S_drewN | apply Kd.N_drewN | apply Kd.R_drew | apply Kd.S_drew | apply Kd.N_drew));exact HO_13.out) hb);have n2_ := Aside0.mk (Kd.R_below (by (with_reducible repeat (first | apply Kd.R_alloc | apply Kd.S_alloc | apply Kd.N_alloc | apply Kd.R_drewN | apply Kd.S_drewN | apply Kd.N_drewN | apply Kd.R_drew | apply Kd.S_drew | apply Kd.N_drew));exact HO_14.out) hb);have n3_ := Aside0.mk (Kd.R_below (by (with_reducible repeat (first | apply Kd.R_alloc | apply Kd.S_alloc | apply Kd.N_alloc | apply Kd.R_drewN | apply Kd.S_drewN | apply Kd.N_drewN | apply Kd.R_drew | apply Kd.S_drew | apply Kd.N_drew));exact HO_348001.out) hb);have n4_ := Aside0.mk (Kd.R_below (by (with_reducible repeat (first | apply Kd.R_alloc | apply Kd.S_alloc | apply Kd.N_alloc | apply Kd.R_drewN | apply Kd.S_drewN | apply Kd.N_drewN | apply Kd.R_drew | apply Kd.S_drew | apply Kd.N_drew));exact HO359.out) hb);have n5_ := Aside0.mk (Kd.S_lower (Kd.S_new' ho0 (Kd.S_lt (by (with_reducible repeat (first | apply Kd.R_alloc | apply Kd.S_alloc | apply Kd.N_alloc | apply Kd.R_drewN | apply Kd.S_drewN | apply Kd.N_drewN | apply Kd.R_drew | apply Kd.S_drew | apply Kd.N_drew));exact HO_13.out))) (below_size (by exact bB)));have n6_ := Aside0.mk (blk_below (g := gb329) (o := .cells #[.int .i64 a0_0, .slice A0_1 l0_1.length c0_1] 24 (0, 0)) (by exact kP BK329.out) hb);have n7_ := Aside0.mk (blk_below (g := gb347) (o := .cells #[.int .i64 t343, .slice Ao36 t344.length co36] 31 (0, 0)) (by exact kP BK347.out) hb);have n8_ := Aside0.mk (below_step (by exact bB) hb);clear HO_10;clear HO_13;clear HO_14;clear HO_348001;clear HO359;clear BK329;clear BK347;clear HB;have HO_10 := n0_;have HO_13 := n1_;have HO_14 := n2_;have HO_348001 := n3_;have HO359 := n4_;have HO363 := n5_;have BK329 := n6_;have BK347 := n7_;have HB := n8_;clear n0_ n1_ n2_ n3_ n4_ n5_ n6_ n7_ n8_;(try clear hb);(try clear hb2);(try clear hk);(try clear hi);(try clear ho0);obtain ⟨Ao111, co111, eo111⟩ := Kd.S_slice HO363.out;subst eo111) | ((with_reducible refine gate_callee (f := 19) rfl ?_);refine goesL_ (some 70) rfl rfl Try.func19 (by kernel_rfl) rfl #[.slice Ao39 t348.length co39, .slice Ao111 t361.length co111] rfl mM ?_;(with_reducible refine (laws_eqIntSS.calls kj20 _ _ t348 _ _ t361 false _ ?side1 ?side2 ?side3 ?side4 A52.out).mono ?_);(case side1 => exact cP (Kd.S_reads' HO_13.out).2.2);(case side2 => exact (Kd.S_reads' HO_13.out).2.1);(case side3 => exact cP (Kd.S_reads' HO363.out).2.2);(case side4 => exact (Kd.S_reads' HO363.out).2.1);rintro e w' ⟨rfl, ⟨nd, rfl⟩⟩;refine ⟨_, rfl, ?_⟩))
        go_ret
        exact ⟨by first | rfl | (simp [errW_none, errW_some] <;> rfl) | (simp [*, errW_none, errW_some] <;> rfl), by exact bB⟩
      ·replace c50 := Bool.eq_false_iff.mpr c50
       subst c50
       have H1 : (some false) = some r := by rw [if_neg (show ¬ (false = true) by decide)] at H;exact H
       clear H
       have H := H1
       clear H1
       obtain rfl := Option.some.inj H
       try go_wp2
       have n0_ := Aside0.mk (Kd.R_drew HO_10.out)
       have n1_ := Aside0.mk (Kd.S_drew HO_13.out)
       have n2_ := Aside0.mk (Kd.R_drew HO_14.out)
       have n3_ := Aside0.mk (Kd.R_drew HO_348001.out)
       have n4_ := Aside0.mk (blk_drew BK329.out)
       have n5_ := Aside0.mk (blk_drew BK347.out)
       have n6_ := Aside0.mk (below_drew1 HB.out)
       clear HO_10
       clear HO_13
       clear HO_14
       clear HO_348001
       clear BK329
       clear BK347
       clear HB
       have HO_10 := n0_
       have HO_13 := n1_
       have HO_14 := n2_
       have HO_348001 := n3_
       have BK329 := n4_
       have BK347 := n5_
       have HB := n6_
       clear n0_ n1_ n2_ n3_ n4_ n5_ n6_
       refine start_ (n := 5) (S := fun w' => w'.cell? ⟨gb347, 0, none⟩ = some (.int .i64 t343) ∧ w'.cell? ⟨gb347, 1, none⟩ = some (.slice Ao36 t344.length co36) ∧ w'.cell? ⟨gb329, 0, none⟩ = some (.int .i64 a0_0) ∧ w'.cell? ⟨gb329, 1, none⟩ = some (.slice A0_1 l0_1.length c0_1)) (ds := []) #[false,false,false,false,false] (by kernel_rfl) rfl rfl ⟨(blk_cell BK347.out 0).trans rfl, (blk_cell BK347.out 1).trans rfl, (blk_cell BK329.out 0).trans rfl, (blk_cell BK329.out 1).trans rfl⟩ (fun hHeld => ?_)
       generalize wc.drew = w112 at HO_10 HO_13 HO_14 HO_348001 BK329 BK347 HB hHeld ⊢
       refine take_ (i := 0) (N := some 62) (v := ?_) (a' := ?_) #[true,false,false,false,false] rfl rfl (by kernel_rfl) (fun _ _ _ h => h) (Or.inl ⟨by rfl, ?_⟩) hHeld ?_ ?_
       rotate_left
       ·rintro w' ⟨s0, s1, s2, s3⟩
        go_simp
        with_reducible rfl
       rotate_left
       ·simp only [Act.put, List.setIfInBounds_toArray, List.set_cons_zero, List.set_cons_succ, i64_w, i32_w]
        rfl
       refine take_ (i := 1) (N := some 63) (v := ?_) (a' := ?_) #[true,true,false,false,false] rfl rfl (by kernel_rfl) (fun _ _ _ h => h) (Or.inl ⟨by rfl, ?_⟩) hHeld ?_ ?_
       rotate_left
       ·rintro w' ⟨s0, s1, s2, s3⟩
        go_simp
        with_reducible rfl
       rotate_left
       ·simp only [Act.put, List.setIfInBounds_toArray, List.set_cons_zero, List.set_cons_succ, i64_w, i32_w]
        rfl
       refine one_ (i := 2) (N := some 64) #[true,true,true,false,false] rfl rfl (by kernel_rfl) (by decide) (fun K hK => ?_)
       refine goes_ Try.func14 (by kernel_rfl) rfl #[.agg #[.int .i64 a0_0, .slice A0_1 l0_1.length c0_1]] (by rfl) rfl rfl mM ?_
       with_reducible refine (laws_toGraph.calls kj20 a0_0 _ _ l0_1 t356 t357 _ ?side1 ?side2 A48.out).mono ?_
       (case side1 => exact cP (Kd.C_below HR0_1.out HB.out))
       (case side2 => exact HC0_1.out)
       rintro e w113 ⟨v358, rfl, ho0, hb⟩
       refine ⟨_, rfl, ?_⟩
       have n0_ := Aside0.mk (Kd.R_below (by (with_reducible repeat (first | apply Kd.R_alloc | apply Kd.S_alloc | apply Kd.N_alloc | apply Kd.R_drewN | apply Kd.S_drewN | apply Kd.N_drewN | apply Kd.R_drew | apply Kd.S_drew | apply Kd.N_drew));exact HO_10.out) hb)
       have n1_ := Aside0.mk (Kd.S_below (by (with_reducible repeat (first | apply Kd.R_alloc | apply Kd.S_alloc | apply Kd.N_alloc | apply Kd.R_drewN | apply Kd.S_drewN | apply Kd.N_drewN | apply Kd.R_drew | apply Kd.S_drew | apply Kd.N_drew));exact HO_13.out) hb)
       have n2_ := Aside0.mk (Kd.R_below (by (with_reducible repeat (first | apply Kd.R_alloc | apply Kd.S_alloc | apply Kd.N_alloc | apply Kd.R_drewN | apply Kd.S_drewN | apply Kd.N_drewN | apply Kd.R_drew | apply Kd.S_drew | apply Kd.N_drew));exact HO_14.out) hb)
       have n3_ := Aside0.mk (Kd.R_elder' (by (with_reducible repeat (first | apply Kd.R_alloc | apply Kd.S_alloc | apply Kd.N_alloc | apply Kd.R_drewN | apply Kd.S_drewN | apply Kd.N_drewN | apply Kd.R_drew | apply Kd.S_drew | apply Kd.N_drew));exact HO_348001.out) (Kd.R_base ho0) hb)
       have n4_ := Aside0.mk (Kd.R_lower (Kd.R_new' ho0 (Kd.R_lt (by (with_reducible repeat (first | apply Kd.R_alloc | apply Kd.S_alloc | apply Kd.N_alloc | apply Kd.R_drewN | apply Kd.S_drewN | apply Kd.N_drewN | apply Kd.R_drew | apply Kd.S_drew | apply Kd.N_drew));exact HO_348001.out))) (below_size (by exact bB)))
       have n5_ := Aside0.mk (blk_below (g := gb329) (o := .cells #[.int .i64 a0_0, .slice A0_1 l0_1.length c0_1] 24 (0, 0)) (by exact kP BK329.out) hb)
       have n6_ := Aside0.mk (blk_below (g := gb347) (o := .cells #[.int .i64 t343, .slice Ao36 t344.length co36] 31 (0, 0)) (by exact kP BK347.out) hb)
       have n7_ := Aside0.mk (below_step (by exact bB) hb)
       clear HO_10
       clear HO_13
       clear HO_14
       clear HO_348001
       clear BK329
       clear BK347
       clear HB
       have HO_10 := n0_
       have HO_13 := n1_
       have HO_14 := n2_
       have HO_348001 := n3_
       have HO359 := n4_
       have BK329 := n5_
       have BK347 := n6_
       have HB := n7_
       clear n0_ n1_ n2_ n3_ n4_ n5_ n6_ n7_
       (try clear hb)
       (try clear hb2)
       (try clear hk)
       (try clear hi)
       (try clear ho0)
       obtain ⟨Ao114, co114, eo114⟩ := Kd.R_slice HO359.out
       (first | subst eo114 | (injection eo114 with f1_ f2_ f3_;have f4_ := f1_.symm;have f5_ := f3_.symm;clear f1_ f2_ f3_;subst f4_;subst f5_))
       refine hK.out _ _ ⟨(blk_cell BK347.out 0).trans rfl, (blk_cell BK347.out 1).trans rfl, (blk_cell BK329.out 0).trans rfl, (blk_cell BK329.out 1).trans rfl⟩ (fun hHeld => ?_)
       clear hK K
       refine norm_ (a' := ?_) ?_ ?_
       rotate_left
       ·show Act.put _ (some 64) _ = _
        simp only [Act.put, List.setIfInBounds_toArray, List.set_cons_zero, List.set_cons_succ, i64_w, i32_w]
        rfl
       refine one_ (i := 3) (N := some 65) #[true,true,true,true,false] rfl rfl (by kernel_rfl) (by decide) (fun K hK => ?_)
       refine goes_ Try.func18 (by kernel_rfl) rfl #[.agg #[.int .i64 t343, .slice Ao36 t344.length co36], .agg #[.int .i64 t356, .slice Ao114 t357.length co114]] (by rfl) rfl rfl mM ?_
       with_reducible refine (laws_eqGraph.calls kj20 t343 _ _ t344 t356 _ _ t357 false _ ?side1 ?side2 ?side3 ?side4 A49.out).mono ?_
       (case side1 => exact cP (Kd.R_reads' HO_348001.out).2.2)
       (case side2 => exact (Kd.R_reads' HO_348001.out).2.1)
       (case side3 => exact cP (Kd.R_reads' HO359.out).2.2)
       (case side4 => exact (Kd.R_reads' HO359.out).2.1)
       rintro e w115 ⟨rfl, hb⟩
       refine ⟨_, rfl, ?_⟩
       have n0_ := Aside0.mk (Kd.R_below (by (with_reducible repeat (first | apply Kd.R_alloc | apply Kd.S_alloc | apply Kd.N_alloc | apply Kd.R_drewN | apply Kd.S_drewN | apply Kd.N_drewN | apply Kd.R_drew | apply Kd.S_drew | apply Kd.N_drew));exact HO_10.out) hb)
       have n1_ := Aside0.mk (Kd.S_below (by (with_reducible repeat (first | apply Kd.R_alloc | apply Kd.S_alloc | apply Kd.N_alloc | apply Kd.R_drewN | apply Kd.S_drewN | apply Kd.N_drewN | apply Kd.R_drew | apply Kd.S_drew | apply Kd.N_drew));exact HO_13.out) hb)
       have n2_ := Aside0.mk (Kd.R_below (by (with_reducible repeat (first | apply Kd.R_alloc | apply Kd.S_alloc | apply Kd.N_alloc | apply Kd.R_drewN | apply Kd.S_drewN | apply Kd.N_drewN | apply Kd.R_drew | apply Kd.S_drew | apply Kd.N_drew));exact HO_14.out) hb)
       have n3_ := Aside0.mk (Kd.R_below (by (with_reducible repeat (first | apply Kd.R_alloc | apply Kd.S_alloc | apply Kd.N_alloc | apply Kd.R_drewN | apply Kd.S_drewN | apply Kd.N_drewN | apply Kd.R_drew | apply Kd.S_drew | apply Kd.N_drew));exact HO_348001.out) hb)
       have n4_ := Aside0.mk (Kd.R_below (by (with_reducible repeat (first | apply Kd.R_alloc | apply Kd.S_alloc | apply Kd.N_alloc | apply Kd.R_drewN | apply Kd.S_drewN | apply Kd.N_drewN | apply Kd.R_drew | apply Kd.S_drew | apply Kd.N_drew));exact HO359.out) hb)
       have n5_ := Aside0.mk (blk_below (g := gb329) (o := .cells #[.int .i64 a0_0, .slice A0_1 l0_1.length c0_1] 24 (0, 0)) (by exact kP BK329.out) hb)
       have n6_ := Aside0.mk (blk_below (g := gb347) (o := .cells #[.int .i64 t343, .slice Ao36 t344.length co36] 31 (0, 0)) (by exact kP BK347.out) hb)
       have n7_ := Aside0.mk (below_step (by exact bB) hb)
       clear HO_10
       clear HO_13
       clear HO_14
       clear HO_348001
       clear HO359
       clear BK329
       clear BK347
       clear HB
       have HO_10 := n0_
       have HO_13 := n1_
       have HO_14 := n2_
       have HO_348001 := n3_
       have HO359 := n4_
       have BK329 := n5_
       have BK347 := n6_
       have HB := n7_
       clear n0_ n1_ n2_ n3_ n4_ n5_ n6_ n7_
       (try clear hb)
       (try clear hb2)
       (try clear hk)
       (try clear hi)
       refine hK.out _ _ ⟨(blk_cell BK347.out 0).trans rfl, (blk_cell BK347.out 1).trans rfl, (blk_cell BK329.out 0).trans rfl, (blk_cell BK329.out 1).trans rfl⟩ (fun hHeld => ?_)
       clear hK K
       refine norm_ (a' := ?_) ?_ ?_
       rotate_left
       ·show Act.put _ (some 65) _ = _
        simp only [Act.put, List.setIfInBounds_toArray, List.set_cons_zero, List.set_cons_succ, i64_w, i32_w]
        rfl
       refine pure_ (i := 4) (N := some 66) (v := ?_) (a' := ?_) #[true,true,true,true,true] rfl rfl (by kernel_rfl) (fun _ _ _ h => h) (Or.inl ⟨by rfl, ?_⟩) ?_ ?_
       rotate_left
       ·intro w'
        go_simp
        with_reducible rfl
       rotate_left
       ·simp only [Act.put, List.setIfInBounds_toArray, List.set_cons_zero, List.set_cons_succ, i64_w, i32_w]
        rfl
       refine done_ (by kernel_rfl) ?_
       try go_wp2
       go_ret
       exact ⟨by first | rfl | (simp [errW_none, errW_some] <;> rfl) | (simp [*, errW_none, errW_some] <;> rfl), by exact bB⟩


end Go.Proofs.Ytmokkhfmbenleaa.QSavedNodes
