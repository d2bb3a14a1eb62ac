import Derived.Test.YthbjajppdomhhaaDoorQChainsOf0
import Derived.Test.YthbjajppdomhhaaDoorQChainsOf1
import Derived.Test.YthbjajppdomhhaaDoorQChainsOf2
import Derived.Test.YthbjajppdomhhaaDoorQChainsOf9
import Derived.Test.YthbjajppdomhhaaDoorQChainsOf13
namespace Go.Proofs.YthbjajppdomhhaaDoor.QChainsOf
open Go.RowKit Go.Proofs.YthbjajppdomhhaaDoorW.PrintWords Go.Proofs.YthbjajppdomhhaaDoorW.PrintLast Go.Proofs.YthbjajppdomhhaaDoorW.PrintMore
attribute [local go_sem] max2_int min2_int max_two min_two max_three min_three max_four min_four   -- for this text's walks alone
set_option linter.unusedVariables false
set_option linter.unusedSimpArgs false
/-! ### laws_FnExactChainsOf: function 7 -/
/-- Blocks of a row of rows: beyond some place, and of its own types. -/
def Mine9 (P : Nat → Prop) (W : World) (base : Nat) (E : List Nat) (k : Nat) : Prop := P k ∧ base ≤ k ∧ k < W.heap.size ∧ ∃ q, q ∈ E ∧ ∃ cells, W.heap[k]? = some (.cells cells q (0, 0))
theorem mine9 {α : Type} {d : Kd α} {e base : Nat} {ok : Nat → Prop} {w : World} {v : Value} {xs : List α} (h : Kd.S d e w base ok v xs) : Kd.S d e w base (Mine9 ok w base (e :: d.E)) v xs := Kd.S_bound h
theorem mine9_block {P : Nat → Prop} {W : World} {base g t : Nat} {E : List Nat} {cells : Array Value} (h : Mine9 P W base E g) (hb : W.heap[g]? = some (.cells cells t (0, 0))) (ht : ¬ t ∈ E) : False := by
 obtain ⟨_, _, _, q, hq, c, hc⟩ := h
 rw [hc] at hb
 simp only [Option.some.injEq, Obj.cells.injEq] at hb
 exact ht (hb.2.1 ▸ hq)
theorem mine9_R {α : Type} {d : Kd α} {e b base : Nat} {ok P : Nat → Prop} {W : World} {E : List Nat} {v : Value} {xs : List α} (h : Kd.R d e W b ok v xs) (hE : ∀ q ∈ e :: d.E, ¬ q ∈ E) : Kd.R d e W b (fun k => ¬ Mine9 P W base E k) v xs :=
 Kd.R_mono (Kd.R_bound h) (fun k hk hM => by obtain ⟨_, _, _, q, hq, c, hc⟩ := hk;exact mine9_block hM hc (hE q hq))
theorem mine9_old {W W1 : World} (hb : Below W.heap.size W W1) : ∃ P9_ : Nat → Prop, ∀ k, P9_ k ↔ W.heap.size ≤ k := ⟨_, fun _ => Iff.rfl⟩
mutual
def laws_FnExactChainsOf.j0 : Nat → List Int → List (List Int) → Bool → List Int → List (List Int) → Bool → Bool → Int → List (S92) → Int → List (S92) → Option (Bool)
 | 0, _, _, _, _, _, _, _, _, _, _, _ => none
 | k + 1, x1, x6, x7, x9, x10, x11, x51, x325000, x325001, x342000, x342001 => if x51 = true then (some false) else ((laws_toGraph.f k x325000 x325001).bind fun bt350 => ((laws_eqGraph.f k x342000 x342001 bt350.1 bt350.2).bind fun t354 => (if t354 = true then ((laws_toIntS.f k x1).bind fun t355 => ((laws_eqIntS.f k x9 t355).bind fun t358 => (if t358 = true then ((laws_markGraph.f x342000 x342001 1).bind fun bt359 => ((laws_markIntS.f k x9 bt359.1).bind fun bt361 => (if bt361.1 < 0 then (laws_FnExactChainsOf.j1 k x1 x6 x7 x10 true x325000 x325001) else ((laws_eqIntSS.f k x10 x6).bind fun t363 => (if t363 = true then (laws_FnExactChainsOf.j1 k x1 x6 x7 x10 (x11 != x7) x325000 x325001) else (laws_FnExactChainsOf.j1 k x1 x6 x7 x10 true x325000 x325001)))))) else (some false)))) else (some false))))
def laws_FnExactChainsOf.j1 : Nat → List Int → List (List Int) → Bool → List (List Int) → Bool → Int → List (S92) → Option (Bool)
 | 0, _, _, _, _, _, _, _ => none
 | k + 1, x1, x6, x7, x10, x80, x325000, x325001 => if x80 = true then (some false) else ((laws_markIntSS.f k x10 1).bind fun bt364 => ((laws_heldIntSS.f k bt364.2 1).bind fun t366 => (if t366 < 0 then (some false) else (if t366 = bt364.1 then ((laws_toGraph.f k x325000 x325001).bind fun bt367 => ((laws_toIntS.f k x1).bind fun t371 => ((impl_ChainsOf.f k bt367.1 bt367.2 t371).bind fun bt374 => ((laws_eqIntSS.f k bt374.1 x6).bind fun t378 => (if t378 = true then (laws_FnExactChainsOf.j2 k bt364.2 bt364.1 (bt374.2 != x7)) else (laws_FnExactChainsOf.j2 k bt364.2 bt364.1 true)))))) else (some false)))))
def laws_FnExactChainsOf.j2 : Nat → List (List Int) → Int → Bool → Option (Bool)
 | 0, _, _, _ => none
 | k + 1, x10, x13, x108 => if x108 = true then (some false) else ((laws_heldIntSS.f k x10 1).bind fun t379 => (if t379 < 0 then (some false) else (if t379 = x13 then (some true) else (some false))))
end
def laws_FnExactChainsOf.f (k : Nat) (a0_0 : Int) (l0_1 : List (S92)) (l1 : List Int) : Option (Bool) := if (l1.length : Int) > 1048576 then (some true) else ((laws_szGraph.f a0_0 l0_1 1048576).bind fun t325 => (if t325 < 0 then (some true) else ((laws_toGraph.f k a0_0 l0_1).bind fun bt326 => ((laws_toIntS.f k l1).bind fun t330 => ((spec_ChainsOf.f k bt326.1 bt326.2 t330).bind fun bt333 => ((laws_toGraph.f k a0_0 l0_1).bind fun bt337 => ((laws_toIntS.f k l1).bind fun t342 => ((impl_ChainsOf.f k bt337.1 bt337.2 t342).bind fun bt345 => ((laws_eqIntSS.f k bt345.1 bt333.1).bind fun t349 => (if t349 = true then (laws_FnExactChainsOf.j0 k l1 bt333.1 bt333.2 t342 bt345.1 bt345.2 (bt345.2 != bt333.2) a0_0 l0_1 bt337.1 bt337.2) else (laws_FnExactChainsOf.j0 k l1 bt333.1 bt333.2 t342 bt345.1 bt345.2 true a0_0 l0_1 bt337.1 bt337.2)))))))))))
theorem laws_FnExactChainsOf.mono_l : ∀ k, (∀ y0 y1 y2 y3 y4 y5 y6 y7 y8 y9 y10, LeO (laws_FnExactChainsOf.j0 k y0 y1 y2 y3 y4 y5 y6 y7 y8 y9 y10) (laws_FnExactChainsOf.j0 (k + 1) y0 y1 y2 y3 y4 y5 y6 y7 y8 y9 y10)) ∧ (∀ y0 y1 y2 y3 y4 y5 y6, LeO (laws_FnExactChainsOf.j1 k y0 y1 y2 y3 y4 y5 y6) (laws_FnExactChainsOf.j1 (k + 1) y0 y1 y2 y3 y4 y5 y6)) ∧ (∀ y0 y1 y2, LeO (laws_FnExactChainsOf.j2 k y0 y1 y2) (laws_FnExactChainsOf.j2 (k + 1) y0 y1 y2))
 | 0 => ⟨fun _ _ _ _ _ _ _ _ _ _ _ r h => by simp [laws_FnExactChainsOf.j0] at h, fun _ _ _ _ _ _ _ r h => by simp [laws_FnExactChainsOf.j1] at h, fun _ _ _ r h => by simp [laws_FnExactChainsOf.j2] at h⟩
 | k + 1 => by
  obtain ⟨ih0, ih1, ih2⟩ := laws_FnExactChainsOf.mono_l k
  refine ⟨?_, ?_, ?_⟩
  ·intro y0 y1 y2 y3 y4 y5 y6 y7 y8 y9 y10
   unfold laws_FnExactChainsOf.j0
   repeat' first
   | (with_reducible exact ih0 _ _ _ _ _ _ _ _ _ _ _)
   | (with_reducible exact ih1 _ _ _ _ _ _ _)
   | (with_reducible exact ih2 _ _ _)
   | (with_reducible exact impl_ChainsOf.mono _ _ _ _)
   | (with_reducible exact laws_eqGraph.mono _ _ _ _ _)
   | (with_reducible exact laws_eqIntS.mono _ _ _)
   | (with_reducible exact laws_eqIntSS.mono _ _ _)
   | (with_reducible exact laws_heldIntSS.mono _ _ _)
   | (with_reducible exact laws_markIntS.mono _ _ _)
   | (with_reducible exact laws_markIntSS.mono _ _ _)
   | (with_reducible exact laws_toGraph.mono _ _ _)
   | (with_reducible exact laws_toIntS.mono _ _)
   | (with_reducible exact spec_ChainsOf.mono _ _ _ _)
   | (with_reducible exact LeO.refl _)
   | (with_reducible exact LeO.none _)
   | (with_reducible refine LeO.ite ?_ ?_)
   | (with_reducible refine LeO.bind ?_ (fun _ => ?_))
   | exact ih0 _ _ _ _ _ _ _ _ _ _ _
   | exact ih1 _ _ _ _ _ _ _
   | exact ih2 _ _ _
   | exact impl_ChainsOf.mono _ _ _ _
   | exact laws_eqGraph.mono _ _ _ _ _
   | exact laws_eqIntS.mono _ _ _
   | exact laws_eqIntSS.mono _ _ _
   | exact laws_heldIntSS.mono _ _ _
   | exact laws_markIntS.mono _ _ _
   | exact laws_markIntSS.mono _ _ _
   | exact laws_toGraph.mono _ _ _
   | exact laws_toIntS.mono _ _
   | exact spec_ChainsOf.mono _ _ _ _
   | exact LeO.none _
   | refine LeO.ite ?_ ?_
   | refine LeO.bind ?_ (fun _ => ?_)
  ·intro y0 y1 y2 y3 y4 y5 y6
   unfold laws_FnExactChainsOf.j1
   repeat' first
   | (with_reducible exact ih0 _ _ _ _ _ _ _ _ _ _ _)
   | (with_reducible exact ih1 _ _ _ _ _ _ _)
   | (with_reducible exact ih2 _ _ _)
   | (with_reducible exact impl_ChainsOf.mono _ _ _ _)
   | (with_reducible exact laws_eqGraph.mono _ _ _ _ _)
   | (with_reducible exact laws_eqIntS.mono _ _ _)
   | (with_reducible exact laws_eqIntSS.mono _ _ _)
   | (with_reducible exact laws_heldIntSS.mono _ _ _)
   | (with_reducible exact laws_markIntS.mono _ _ _)
   | (with_reducible exact laws_markIntSS.mono _ _ _)
   | (with_reducible exact laws_toGraph.mono _ _ _)
   | (with_reducible exact laws_toIntS.mono _ _)
   | (with_reducible exact spec_ChainsOf.mono _ _ _ _)
   | (with_reducible exact LeO.refl _)
   | (with_reducible exact LeO.none _)
   | (with_reducible refine LeO.ite ?_ ?_)
   | (with_reducible refine LeO.bind ?_ (fun _ => ?_))
   | exact ih0 _ _ _ _ _ _ _ _ _ _ _
   | exact ih1 _ _ _ _ _ _ _
   | exact ih2 _ _ _
   | exact impl_ChainsOf.mono _ _ _ _
   | exact laws_eqGraph.mono _ _ _ _ _
   | exact laws_eqIntS.mono _ _ _
   | exact laws_eqIntSS.mono _ _ _
   | exact laws_heldIntSS.mono _ _ _
   | exact laws_markIntS.mono _ _ _
   | exact laws_markIntSS.mono _ _ _
   | exact laws_toGraph.mono _ _ _
   | exact laws_toIntS.mono _ _
   | exact spec_ChainsOf.mono _ _ _ _
   | exact LeO.none _
   | refine LeO.ite ?_ ?_
   | refine LeO.bind ?_ (fun _ => ?_)
  ·intro y0 y1 y2
   unfold laws_FnExactChainsOf.j2
   repeat' first
   | (with_reducible exact ih0 _ _ _ _ _ _ _ _ _ _ _)
   | (with_reducible exact ih1 _ _ _ _ _ _ _)
   | (with_reducible exact ih2 _ _ _)
   | (with_reducible exact impl_ChainsOf.mono _ _ _ _)
   | (with_reducible exact laws_eqGraph.mono _ _ _ _ _)
   | (with_reducible exact laws_eqIntS.mono _ _ _)
   | (with_reducible exact laws_eqIntSS.mono _ _ _)
   | (with_reducible exact laws_heldIntSS.mono _ _ _)
   | (with_reducible exact laws_markIntS.mono _ _ _)
   | (with_reducible exact laws_markIntSS.mono _ _ _)
   | (with_reducible exact laws_toGraph.mono _ _ _)
   | (with_reducible exact laws_toIntS.mono _ _)
   | (with_reducible exact spec_ChainsOf.mono _ _ _ _)
   | (with_reducible exact LeO.refl _)
   | (with_reducible exact LeO.none _)
   | (with_reducible refine LeO.ite ?_ ?_)
   | (with_reducible refine LeO.bind ?_ (fun _ => ?_))
   | exact ih0 _ _ _ _ _ _ _ _ _ _ _
   | exact ih1 _ _ _ _ _ _ _
   | exact ih2 _ _ _
   | exact impl_ChainsOf.mono _ _ _ _
   | exact laws_eqGraph.mono _ _ _ _ _
   | exact laws_eqIntS.mono _ _ _
   | exact laws_eqIntSS.mono _ _ _
   | exact laws_heldIntSS.mono _ _ _
   | exact laws_markIntS.mono _ _ _
   | exact laws_markIntSS.mono _ _ _
   | exact laws_toGraph.mono _ _ _
   | exact laws_toIntS.mono _ _
   | exact spec_ChainsOf.mono _ _ _ _
   | exact LeO.none _
   | refine LeO.ite ?_ ?_
   | refine LeO.bind ?_ (fun _ => ?_)
theorem laws_FnExactChainsOf.mono : ∀ a0 a1 a2 k, LeO (laws_FnExactChainsOf.f k a0 a1 a2) (laws_FnExactChainsOf.f (k + 1) a0 a1 a2) := by
 intro a0 a1 a2 k
 obtain ⟨ih0, ih1, ih2⟩ := laws_FnExactChainsOf.mono_l k
 unfold laws_FnExactChainsOf.f
 repeat' first
   | (with_reducible exact ih0 _ _ _ _ _ _ _ _ _ _ _)
   | (with_reducible exact ih1 _ _ _ _ _ _ _)
   | (with_reducible exact ih2 _ _ _)
   | (with_reducible exact impl_ChainsOf.mono _ _ _ _)
   | (with_reducible exact laws_eqGraph.mono _ _ _ _ _)
   | (with_reducible exact laws_eqIntS.mono _ _ _)
   | (with_reducible exact laws_eqIntSS.mono _ _ _)
   | (with_reducible exact laws_heldIntSS.mono _ _ _)
   | (with_reducible exact laws_markIntS.mono _ _ _)
   | (with_reducible exact laws_markIntSS.mono _ _ _)
   | (with_reducible exact laws_toGraph.mono _ _ _)
   | (with_reducible exact laws_toIntS.mono _ _)
   | (with_reducible exact spec_ChainsOf.mono _ _ _ _)
   | (with_reducible exact LeO.refl _)
   | (with_reducible exact LeO.none _)
   | (with_reducible refine LeO.ite ?_ ?_)
   | (with_reducible refine LeO.bind ?_ (fun _ => ?_))
   | exact ih0 _ _ _ _ _ _ _ _ _ _ _
   | exact ih1 _ _ _ _ _ _ _
   | exact ih2 _ _ _
   | exact impl_ChainsOf.mono _ _ _ _
   | exact laws_eqGraph.mono _ _ _ _ _
   | exact laws_eqIntS.mono _ _ _
   | exact laws_eqIntSS.mono _ _ _
   | exact laws_heldIntSS.mono _ _ _
   | exact laws_markIntS.mono _ _ _
   | exact laws_markIntSS.mono _ _ _
   | exact laws_toGraph.mono _ _ _
   | exact laws_toIntS.mono _ _
   | exact spec_ChainsOf.mono _ _ _ _
   | exact LeO.none _
   | refine LeO.ite ?_ ?_
   | refine LeO.bind ?_ (fun _ => ?_)
set_option maxHeartbeats 8000000 in
set_option maxRecDepth 100000 in
theorem laws_FnExactChainsOf.calls (k : Nat) (a0_0 : Int) (A0_1 : Option Addr) (c0_1 : Nat) (l0_1 : List (S92)) (A1 : Option Addr) (c1 : Nat) (l1 : List Int) (r : Bool) (w : World) (hT : TabG w) (hr0_1 : Kd.C k92 w A0_1 l0_1.length l0_1) (hc0_1 : l0_1.length ≤ c0_1) (hr1 : Kd.C (Kd.int .i64) w A1 l1.length l1) (hc1 : l1.length ≤ c1) (h : laws_FnExactChainsOf.f k a0_0 l0_1 l1 = some r) :
  Calls Tryd.prog 7 #[.agg #[.int .i64 a0_0, .slice A0_1 l0_1.length c0_1], .slice A1 l1.length c1] w fun e w' => e = .returned (.bool r) ∧ Below w.heap.size w w' := by
 have hu24 := Tryd.underlying24
 have hu28 := Tryd.underlying28
 have HR0_1 := Aside0.mk hr0_1
 have HC0_1 := Aside0.mk hc0_1
 clear hr0_1 hc0_1
 have HR1 := Aside0.mk hr1
 have HC1 := Aside0.mk hc1
 clear hr1 hc1
 have HB := Aside0.mk (Below.refl w.heap.size w)
 have HT := Aside0.mk hT
 clear hT
 have H : (if (l1.length : Int) > 1048576 then (some true) else ((laws_szGraph.f a0_0 l0_1 1048576).bind fun t325 => (if t325 < 0 then (some true) else ((laws_toGraph.f k a0_0 l0_1).bind fun bt326 => ((laws_toIntS.f k l1).bind fun t330 => ((spec_ChainsOf.f k bt326.1 bt326.2 t330).bind fun bt333 => ((laws_toGraph.f k a0_0 l0_1).bind fun bt337 => ((laws_toIntS.f k l1).bind fun t342 => ((impl_ChainsOf.f k bt337.1 bt337.2 t342).bind fun bt345 => ((laws_eqIntSS.f k bt345.1 bt333.1).bind fun t349 => (if t349 = true then (laws_FnExactChainsOf.j0 k l1 bt333.1 bt333.2 t342 bt345.1 bt345.2 (bt345.2 != bt333.2) a0_0 l0_1 bt337.1 bt337.2) else (laws_FnExactChainsOf.j0 k l1 bt333.1 bt333.2 t342 bt345.1 bt345.2 true a0_0 l0_1 bt337.1 bt337.2)))))))))))) = some r := h
 clear h
 by_cases c3 : (l1.length : Int) > 1048576
 ·rw [if_pos c3] at H
  have c3b0 : decide (1048576 < (l1.length : Int)) = true := decide_eq_true c3
  have c3b1 : decide (1048576 < l1.length) = true := decide_eq_true (by omega)
  clear c3
  obtain rfl := Option.some.inj H
  go_enter Tryd.func7, Tryd.ntmps7
  go_wp2_with (first | ((with_reducible refine gate_dst (N := 2) rfl ?_);refine box_event ?hg (N := 2) ?hd (cs := #[.int .i64 a0_0, .slice A0_1 l0_1.length c0_1]) (t := 24) ?hr ?_;(case hd => rfl);(case hg => rfl);(case hr => first | (go_simp;done) | (go_simp;rfl));intro gb324 hg w4 hbox hb;have n0_ := Aside0.mk (below_step (by exact bB) hb);have n1_ := Aside0.mk (hbox);have n2_ := Aside0.mk ((by rw [hg];exact (below_size (by exact bB)) : w.heap.size ≤ gb324));have n3_ := Aside0.mk ((by rw [hg];exact (below_size (by exact bB)) : w.heap.size ≤ gb324));clear HB;have HB := n0_;have BK324 := n1_;have GW324 := n2_;have GE324 := n3_;clear n0_ n1_ n2_ n3_;clear hb hbox hg))
  go_ret
  exact ⟨by first | rfl | (simp [errW_none, errW_some] <;> rfl) | (simp [*, errW_none, errW_some] <;> rfl), by exact bB⟩
 ·rw [if_neg c3] at H
  have c3b0 : decide (1048576 < (l1.length : Int)) = false := decide_eq_false c3
  have c3b1 : decide (1048576 < l1.length) = false := decide_eq_false (by omega)
  clear c3
  replace H := Option.bind_eq_some_iff.mp H
  obtain ⟨t325, A50, H⟩ := H
  replace H : (if t325 < 0 then (some true) else ((laws_toGraph.f k a0_0 l0_1).bind fun bt326 => ((laws_toIntS.f k l1).bind fun t330 => ((spec_ChainsOf.f k bt326.1 bt326.2 t330).bind fun bt333 => ((laws_toGraph.f k a0_0 l0_1).bind fun bt337 => ((laws_toIntS.f k l1).bind fun t342 => ((impl_ChainsOf.f k bt337.1 bt337.2 t342).bind fun bt345 => ((laws_eqIntSS.f k bt345.1 bt333.1).bind fun t349 => (if t349 = true then (laws_FnExactChainsOf.j0 k l1 bt333.1 bt333.2 t342 bt345.1 bt345.2 (bt345.2 != bt333.2) a0_0 l0_1 bt337.1 bt337.2) else (laws_FnExactChainsOf.j0 k l1 bt333.1 bt333.2 t342 bt345.1 bt345.2 true a0_0 l0_1 bt337.1 bt337.2)))))))))) = some r := H
  have A5 := Aside0.mk A50
  clear A50
  by_cases c6 : t325 < 0
  ·rw [if_pos c6] at H
   have c6b0 : decide (t325 < 0) = true := decide_eq_true c6
   clear c6
   obtain rfl := Option.some.inj H
   go_enter Tryd.func7, Tryd.ntmps7
   go_wp2_with (first | ((with_reducible refine gate_dst (N := 2) rfl ?_);refine box_event ?hg (N := 2) ?hd (cs := #[.int .i64 a0_0, .slice A0_1 l0_1.length c0_1]) (t := 24) ?hr ?_;(case hd => rfl);(case hg => rfl);(case hr => first | (go_simp;done) | (go_simp;rfl));intro gb324 hg w7 hbox hb;have n0_ := Aside0.mk (below_step (by exact bB) hb);have n1_ := Aside0.mk (hbox);have n2_ := Aside0.mk ((by rw [hg];exact (below_size (by exact bB)) : w.heap.size ≤ gb324));have n3_ := Aside0.mk ((by rw [hg];exact (below_size (by exact bB)) : w.heap.size ≤ gb324));clear HB;have HB := n0_;have BK324 := n1_;have GW324 := n2_;have GE324 := n3_;clear n0_ n1_ n2_ n3_;clear hb hbox hg;have hcz8_0 : w7.cell? ⟨gb324, 0, none⟩ = some (.int .i64 a0_0) := (blk_cell BK324.out 0).trans rfl;have hcz8_1 : w7.cell? ⟨gb324, 1, none⟩ = some (.slice A0_1 l0_1.length c0_1) := (blk_cell BK324.out 1).trans rfl;have hfz8_0 := blk_frozen BK324.out 0;have hfz8_1 := blk_frozen BK324.out 1) | ((with_reducible refine gate_callee (f := 11) rfl ?_);refine goesL_ (some 22) rfl rfl Tryd.func11 (by kernel_rfl) rfl #[.agg #[.int .i64 a0_0, .slice A0_1 l0_1.length c0_1], .int .i64 1048576] rfl mM ?_;(with_reducible refine (laws_szGraph.calls a0_0 _ _ l0_1 1048576 t325 _ ?side1 ?side2 A5.out).mono ?_);(case side1 => exact cP (Kd.C_below HR0_1.out HB.out));(case side2 => exact HC0_1.out);rintro e w9 ⟨rfl, hb⟩;refine ⟨_, rfl, ?_⟩;have n0_ := Aside0.mk (blk_below (g := gb324) (o := .cells #[.int .i64 a0_0, .slice A0_1 l0_1.length c0_1] 24 (0, 0)) (by exact kP BK324.out) hb);have n1_ := Aside0.mk (below_step (by exact bB) hb);clear BK324;clear HB;have BK324 := n0_;have HB := n1_;clear n0_ n1_;(try clear hb);(try clear hb2);(try clear hk);(try clear hi)))
   go_ret
   exact ⟨by first | rfl | (simp [errW_none, errW_some] <;> rfl) | (simp [*, errW_none, errW_some] <;> rfl), by exact bB⟩
  ·rw [if_neg c6] at H
   have c6b0 : decide (t325 < 0) = false := decide_eq_false c6
   clear c6
   replace H := Option.bind_eq_some_iff.mp H
   obtain ⟨⟨t326, t327⟩, A100, H⟩ := H
   replace H : ((laws_toIntS.f k l1).bind fun t330 => ((spec_ChainsOf.f k t326 t327 t330).bind fun bt333 => ((laws_toGraph.f k a0_0 l0_1).bind fun bt337 => ((laws_toIntS.f k l1).bind fun t342 => ((impl_ChainsOf.f k bt337.1 bt337.2 t342).bind fun bt345 => ((laws_eqIntSS.f k bt345.1 bt333.1).bind fun t349 => (if t349 = true then (laws_FnExactChainsOf.j0 k l1 bt333.1 bt333.2 t342 bt345.1 bt345.2 (bt345.2 != bt333.2) a0_0 l0_1 bt337.1 bt337.2) else (laws_FnExactChainsOf.j0 k l1 bt333.1 bt333.2 t342 bt345.1 bt345.2 true a0_0 l0_1 bt337.1 bt337.2)))))))) = some r := H
   have A10 := Aside0.mk A100
   clear A100
   replace H := Option.bind_eq_some_iff.mp H
   obtain ⟨t330, A110, H⟩ := H
   replace H : ((spec_ChainsOf.f k t326 t327 t330).bind fun bt333 => ((laws_toGraph.f k a0_0 l0_1).bind fun bt337 => ((laws_toIntS.f k l1).bind fun t342 => ((impl_ChainsOf.f k bt337.1 bt337.2 t342).bind fun bt345 => ((laws_eqIntSS.f k bt345.1 bt333.1).bind fun t349 => (if t349 = true then (laws_FnExactChainsOf.j0 k l1 bt333.1 bt333.2 t342 bt345.1 bt345.2 (bt345.2 != bt333.2) a0_0 l0_1 bt337.1 bt337.2) else (laws_FnExactChainsOf.j0 k l1 bt333.1 bt333.2 t342 bt345.1 bt345.2 true a0_0 l0_1 bt337.1 bt337.2))))))) = some r := H
   have A11 := Aside0.mk A110
   clear A110
   replace H := Option.bind_eq_some_iff.mp H
   obtain ⟨⟨t333, t336⟩, A120, H⟩ := H
   replace H : ((laws_toGraph.f k a0_0 l0_1).bind fun bt337 => ((laws_toIntS.f k l1).bind fun t342 => ((impl_ChainsOf.f k bt337.1 bt337.2 t342).bind fun bt345 => ((laws_eqIntSS.f k bt345.1 t333).bind fun t349 => (if t349 = true then (laws_FnExactChainsOf.j0 k l1 t333 t336 t342 bt345.1 bt345.2 (bt345.2 != t336) a0_0 l0_1 bt337.1 bt337.2) else (laws_FnExactChainsOf.j0 k l1 t333 t336 t342 bt345.1 bt345.2 true a0_0 l0_1 bt337.1 bt337.2)))))) = some r := H
   have A12 := Aside0.mk A120
   clear A120
   replace H := Option.bind_eq_some_iff.mp H
   obtain ⟨⟨t337, t338⟩, A130, H⟩ := H
   replace H : ((laws_toIntS.f k l1).bind fun t342 => ((impl_ChainsOf.f k t337 t338 t342).bind fun bt345 => ((laws_eqIntSS.f k bt345.1 t333).bind fun t349 => (if t349 = true then (laws_FnExactChainsOf.j0 k l1 t333 t336 t342 bt345.1 bt345.2 (bt345.2 != t336) a0_0 l0_1 t337 t338) else (laws_FnExactChainsOf.j0 k l1 t333 t336 t342 bt345.1 bt345.2 true a0_0 l0_1 t337 t338))))) = some r := H
   have A13 := Aside0.mk A130
   clear A130
   replace H := Option.bind_eq_some_iff.mp H
   obtain ⟨t342, A140, H⟩ := H
   replace H : ((impl_ChainsOf.f k t337 t338 t342).bind fun bt345 => ((laws_eqIntSS.f k bt345.1 t333).bind fun t349 => (if t349 = true then (laws_FnExactChainsOf.j0 k l1 t333 t336 t342 bt345.1 bt345.2 (bt345.2 != t336) a0_0 l0_1 t337 t338) else (laws_FnExactChainsOf.j0 k l1 t333 t336 t342 bt345.1 bt345.2 true a0_0 l0_1 t337 t338)))) = some r := H
   have A14 := Aside0.mk A140
   clear A140
   replace H := Option.bind_eq_some_iff.mp H
   obtain ⟨⟨t345, t348⟩, A150, H⟩ := H
   replace H : ((laws_eqIntSS.f k t345 t333).bind fun t349 => (if t349 = true then (laws_FnExactChainsOf.j0 k l1 t333 t336 t342 t345 t348 (t348 != t336) a0_0 l0_1 t337 t338) else (laws_FnExactChainsOf.j0 k l1 t333 t336 t342 t345 t348 true a0_0 l0_1 t337 t338))) = some r := H
   have A15 := Aside0.mk A150
   clear A150
   have HC16 := Aside0.mk H
   clear H
   go_enter Tryd.func7, Tryd.ntmps7
   go_upto_region 11 with (first | ((with_reducible refine gate_dst (N := 2) rfl ?_);refine box_event ?hg (N := 2) ?hd (cs := #[.int .i64 a0_0, .slice A0_1 l0_1.length c0_1]) (t := 24) ?hr ?_;(case hd => rfl);(case hg => rfl);(case hr => first | (go_simp;done) | (go_simp;rfl));intro gb324 hg w17 hbox hb;have n0_ := Aside0.mk (below_step (by exact bB) hb);have n1_ := Aside0.mk (hbox);have n2_ := Aside0.mk ((by rw [hg];exact (below_size (by exact bB)) : w.heap.size ≤ gb324));have n3_ := Aside0.mk ((by rw [hg];exact (below_size (by exact bB)) : w.heap.size ≤ gb324));clear HB;have HB := n0_;have BK324 := n1_;have GW324 := n2_;have GE324 := n3_;clear n0_ n1_ n2_ n3_;clear hb hbox hg;have hcz18_0 : w17.cell? ⟨gb324, 0, none⟩ = some (.int .i64 a0_0) := (blk_cell BK324.out 0).trans rfl;have hcz18_1 : w17.cell? ⟨gb324, 1, none⟩ = some (.slice A0_1 l0_1.length c0_1) := (blk_cell BK324.out 1).trans rfl;have hfz18_0 := blk_frozen BK324.out 0;have hfz18_1 := blk_frozen BK324.out 1) | ((with_reducible refine gate_callee (f := 11) rfl ?_);refine goesL_ (some 22) rfl rfl Tryd.func11 (by kernel_rfl) rfl #[.agg #[.int .i64 a0_0, .slice A0_1 l0_1.length c0_1], .int .i64 1048576] rfl mM ?_;(with_reducible refine (laws_szGraph.calls a0_0 _ _ l0_1 1048576 t325 _ ?side1 ?side2 A5.out).mono ?_);(case side1 => exact cP (Kd.C_below HR0_1.out HB.out));(case side2 => exact HC0_1.out);rintro e w19 ⟨rfl, hb⟩;refine ⟨_, rfl, ?_⟩;have n0_ := Aside0.mk (blk_below (g := gb324) (o := .cells #[.int .i64 a0_0, .slice A0_1 l0_1.length c0_1] 24 (0, 0)) (by exact kP BK324.out) hb);have n1_ := Aside0.mk (below_step (by exact bB) hb);clear BK324;clear HB;have BK324 := n0_;have HB := n1_;clear n0_ n1_;(try clear hb);(try clear hb2);(try clear hk);(try clear hi);have hcz20_0 : w19.cell? ⟨gb324, 0, none⟩ = some (.int .i64 a0_0) := (blk_cell BK324.out 0).trans rfl;have hcz20_1 : w19.cell? ⟨gb324, 1, none⟩ = some (.slice A0_1 l0_1.length c0_1) := (blk_cell BK324.out 1).trans rfl;have hfz20_0 := blk_frozen BK324.out 0;have hfz20_1 := blk_frozen BK324.out 1) | ((with_reducible refine gate_callee (f := 13) rfl ?_);refine goesL_ (some 27) rfl rfl Tryd.func13 (by kernel_rfl) rfl #[.agg #[.int .i64 a0_0, .slice A0_1 l0_1.length c0_1]] rfl mM ?_;(with_reducible refine (laws_toGraph.calls k a0_0 _ _ l0_1 t326 t327 _ ?side1 ?side2 A10.out).mono ?_);(case side1 => exact cP (Kd.C_below HR0_1.out HB.out));(case side2 => exact HC0_1.out);rintro e w21 ⟨v328, rfl, ho0, hb⟩;refine ⟨_, rfl, ?_⟩;have n0_ := Aside0.mk (Kd.R_lower ho0 (below_size (by exact bB)));have n1_ := Aside0.mk (blk_below (g := gb324) (o := .cells #[.int .i64 a0_0, .slice A0_1 l0_1.length c0_1] 24 (0, 0)) (by exact kP BK324.out) hb);have n2_ := Aside0.mk (below_step (by exact bB) hb);clear BK324;clear HB;have HO329 := n0_;have BK324 := n1_;have HB := n2_;clear n0_ n1_ n2_;(try clear hb);(try clear hb2);(try clear hk);(try clear hi);(try clear ho0)) | ((with_reducible refine gate_callee (f := 17) rfl ?_);refine goesL_ (some 29) rfl rfl Tryd.func17 (by kernel_rfl) rfl #[.slice A1 l1.length c1] rfl mM ?_;(with_reducible refine (laws_toIntS.calls k _ _ l1 t330 _ ?side1 ?side2 A11.out).mono ?_);(case side1 => exact cP (Kd.C_below HR1.out HB.out));(case side2 => exact HC1.out);rintro e w22 ⟨v331, rfl, ho0, hb⟩;refine ⟨_, rfl, ?_⟩;have n0_ := Aside0.mk (Kd.R_below (by (with_reducible repeat (first | apply Kd.R_alloc | apply Kd.S_alloc | apply Kd.N_alloc | apply Kd.R_drewN | apply Kd.S_drewN | apply Kd.N_drewN | apply Kd.R_drew | apply Kd.S_drew | apply Kd.N_drew));exact HO329.out) hb);have n1_ := Aside0.mk (Kd.R_lower ho0 (below_size (by exact bB)));have n2_ := Aside0.mk (blk_below (g := gb324) (o := .cells #[.int .i64 a0_0, .slice A0_1 l0_1.length c0_1] 24 (0, 0)) (by exact kP BK324.out) hb);have n3_ := Aside0.mk (below_step (by exact bB) hb);clear HO329;clear BK324;clear HB;have HO329 := n0_;have HO332 := n1_;have BK324 := n2_;have HB := n3_;clear n0_ n1_ n2_ n3_;(try clear hb);(try clear hb2);(try clear hk);(try clear hi);(try clear ho0);obtain ⟨Ao23, co23, eo23⟩ := Kd.R_slice HO329.out;subst eo23;obtain ⟨Ao24, co24, eo24⟩ := Kd.R_slice HO332.out;subst eo24) | ((with_reducible refine gate_callee (f := 30) rfl ?_);refine goesL_ (some 30) rfl rfl Tryd.func30 (by kernel_rfl) rfl #[.agg #[.int .i64 t326, .slice Ao23 t327.length co23], .slice Ao24 t330.length co24] rfl mM ?_;(with_reducible refine (spec_ChainsOf.calls k t326 _ _ t327 _ _ t330 t333 t336 _ ?side1 ?side2 ?side3 ?side4 A12.out).mono ?_);(case side1 => exact cP (Kd.R_reads' HO329.out).2.2);(case side2 => exact (Kd.R_reads' HO329.out).2.1);(case side3 => exact cP (Kd.R_reads' HO332.out).2.2);(case side4 => exact (Kd.R_reads' HO332.out).2.1);rintro e w25 ⟨v334, rfl, ho0, hb⟩;refine ⟨_, rfl, ?_⟩;have n0_ := Aside0.mk (Kd.R_below (by (with_reducible repeat (first | apply Kd.R_alloc | apply Kd.S_alloc | apply Kd.N_alloc | apply Kd.R_drewN | apply Kd.S_drewN | apply Kd.N_drewN | apply Kd.R_drew | apply Kd.S_drew | apply Kd.N_drew));exact HO329.out) hb);have n1_ := Aside0.mk (Kd.R_below (by (with_reducible repeat (first | apply Kd.R_alloc | apply Kd.S_alloc | apply Kd.N_alloc | apply Kd.R_drewN | apply Kd.S_drewN | apply Kd.N_drewN | apply Kd.R_drew | apply Kd.S_drew | apply Kd.N_drew));exact HO332.out) hb);have n2_ := Aside0.mk (Kd.N_lower (Kd.R_N (Kd.S_R ho0)) (below_size (by exact bB)));have n3_ := Aside0.mk (blk_below (g := gb324) (o := .cells #[.int .i64 a0_0, .slice A0_1 l0_1.length c0_1] 24 (0, 0)) (by exact kP BK324.out) hb);have n4_ := Aside0.mk (below_step (by exact bB) hb);clear HO329;clear HO332;clear BK324;clear HB;have HO329 := n0_;have HO332 := n1_;have HO335 := n2_;have BK324 := n3_;have HB := n4_;clear n0_ n1_ n2_ n3_ n4_;(try clear hb);(try clear hb2);(try clear hk);(try clear hi);(try clear ho0);have hcz26_0 : w25.cell? ⟨gb324, 0, none⟩ = some (.int .i64 a0_0) := (blk_cell BK324.out 0).trans rfl;have hcz26_1 : w25.cell? ⟨gb324, 1, none⟩ = some (.slice A0_1 l0_1.length c0_1) := (blk_cell BK324.out 1).trans rfl;have hfz26_0 := blk_frozen BK324.out 0;have hfz26_1 := blk_frozen BK324.out 1) | ((with_reducible refine gate_callee (f := 13) rfl ?_);refine goesL_ (some 34) rfl rfl Tryd.func13 (by kernel_rfl) rfl #[.agg #[.int .i64 a0_0, .slice A0_1 l0_1.length c0_1]] rfl mM ?_;(with_reducible refine (laws_toGraph.calls k a0_0 _ _ l0_1 t337 t338 _ ?side1 ?side2 A13.out).mono ?_);(case side1 => exact cP (Kd.C_below HR0_1.out HB.out));(case side2 => exact HC0_1.out);rintro e w27 ⟨v339, rfl, ho0, hb⟩;refine ⟨_, rfl, ?_⟩;have n0_ := Aside0.mk (Kd.R_elder' (by (with_reducible repeat (first | apply Kd.R_alloc | apply Kd.S_alloc | apply Kd.N_alloc | apply Kd.R_drewN | apply Kd.S_drewN | apply Kd.N_drewN | apply Kd.R_drew | apply Kd.S_drew | apply Kd.N_drew));exact HO329.out) (Kd.R_base ho0) hb);have n1_ := Aside0.mk (Kd.R_below (by (with_reducible repeat (first | apply Kd.R_alloc | apply Kd.S_alloc | apply Kd.N_alloc | apply Kd.R_drewN | apply Kd.S_drewN | apply Kd.N_drewN | apply Kd.R_drew | apply Kd.S_drew | apply Kd.N_drew));exact HO332.out) hb);have n2_ := Aside0.mk (Kd.N_elder' (by (with_reducible repeat (first | apply Kd.R_alloc | apply Kd.S_alloc | apply Kd.N_alloc | apply Kd.R_drewN | apply Kd.S_drewN | apply Kd.N_drewN | apply Kd.R_drew | apply Kd.S_drew | apply Kd.N_drew));exact HO335.out) (Kd.R_base ho0) hb);have n3_ := Aside0.mk (Kd.R_lower (Kd.R_new' ho0 (Kd.R_lt (by (with_reducible repeat (first | apply Kd.R_alloc | apply Kd.S_alloc | apply Kd.N_alloc | apply Kd.R_drewN | apply Kd.S_drewN | apply Kd.N_drewN | apply Kd.R_drew | apply Kd.S_drew | apply Kd.N_drew));exact HO329.out))) (below_size (by exact bB)));have n4_ := Aside0.mk (blk_below (g := gb324) (o := .cells #[.int .i64 a0_0, .slice A0_1 l0_1.length c0_1] 24 (0, 0)) (by exact kP BK324.out) hb);have n5_ := Aside0.mk (below_step (by exact bB) hb);clear HO329;clear HO332;clear HO335;clear BK324;clear HB;have HO329 := n0_;have HO332 := n1_;have HO335 := n2_;have HO340 := n3_;have BK324 := n4_;have HB := n5_;clear n0_ n1_ n2_ n3_ n4_ n5_;(try clear hb);(try clear hb2);(try clear hk);(try clear hi);(try clear ho0)) | ((with_reducible refine gate_dst (N := 8) rfl ?_);refine box_event ?hg (N := 8) ?hd (cs := #[.int .i64 0, .slice none 0 0]) (t := 28) ?hr ?_;(case hd => rfl);(case hg => rfl);(case hr => first | (go_simp;done) | (go_simp;rfl));intro gb341 hg w28 hbox hb;have n0_ := Aside0.mk (Kd.R_below (by (with_reducible repeat (first | apply Kd.R_alloc | apply Kd.S_alloc | apply Kd.N_alloc | apply Kd.R_drewN | apply Kd.S_drewN | apply Kd.N_drewN | apply Kd.R_drew | apply Kd.S_drew | apply Kd.N_drew));exact HO329.out) hb);have n1_ := Aside0.mk (Kd.R_below (by (with_reducible repeat (first | apply Kd.R_alloc | apply Kd.S_alloc | apply Kd.N_alloc | apply Kd.R_drewN | apply Kd.S_drewN | apply Kd.N_drewN | apply Kd.R_drew | apply Kd.S_drew | apply Kd.N_drew));exact HO332.out) hb);have n2_ := Aside0.mk (Kd.N_below (Kd.N_elderB (by (with_reducible repeat (first | apply Kd.R_alloc | apply Kd.S_alloc | apply Kd.N_alloc | apply Kd.R_drewN | apply Kd.S_drewN | apply Kd.N_drewN | apply Kd.R_drew | apply Kd.S_drew | apply Kd.N_drew));exact HO335.out) gb341 (by rw [hg];exact Nat.le_refl _)) hb);have n3_ := Aside0.mk (Kd.R_below (by (with_reducible repeat (first | apply Kd.R_alloc | apply Kd.S_alloc | apply Kd.N_alloc | apply Kd.R_drewN | apply Kd.S_drewN | apply Kd.N_drewN | apply Kd.R_drew | apply Kd.S_drew | apply Kd.N_drew));exact HO340.out) hb);have n4_ := Aside0.mk (blk_below (g := gb324) (o := .cells #[.int .i64 a0_0, .slice A0_1 l0_1.length c0_1] 24 (0, 0)) (by exact kP BK324.out) hb);have n5_ := Aside0.mk (below_step (by exact bB) hb);have n6_ := Aside0.mk (hbox);have n7_ := Aside0.mk ((by rw [hg];exact (below_size (by exact bB)) : w.heap.size ≤ gb341));have n8_ := Aside0.mk ((by rw [hg];exact (below_size (by exact bB)) : w.heap.size ≤ gb341));have n9_ := Aside0.mk ((by rw [hg];exact Nat.ne_of_lt (blk_lt (g := gb324) (o := .cells #[.int .i64 a0_0, .slice A0_1 l0_1.length c0_1] 24 (0, 0)) (by exact kP BK324.out)) : gb324 ≠ gb341));have n10_ := Aside0.mk ((by rw [hg];exact Nat.ne_of_gt (blk_lt (g := gb324) (o := .cells #[.int .i64 a0_0, .slice A0_1 l0_1.length c0_1] 24 (0, 0)) (by exact kP BK324.out)) : gb341 ≠ gb324));clear HO329;clear HO332;clear HO335;clear HO340;clear BK324;clear HB;have HO329 := n0_;have HO332 := n1_;have HO335 := n2_;have HO340 := n3_;have BK324 := n4_;have HB := n5_;have BK341 := n6_;have GW341 := n7_;have GE341 := n8_;have NB324_341 := n9_;have NB341_324 := n10_;clear n0_ n1_ n2_ n3_ n4_ n5_ n6_ n7_ n8_ n9_ n10_;clear hb hbox hg;have hnb29 := NB341_324.out;have hnc29 := NB324_341.out;have hcz30_0 : w28.cell? ⟨gb341, 0, none⟩ = some (.int .i64 0) := (blk_cell BK341.out 0).trans rfl;have hcz30_1 : w28.cell? ⟨gb341, 1, none⟩ = some (.slice none 0 0) := (blk_cell BK341.out 1).trans rfl;have hfz30_0 := blk_frozen BK341.out 0;have hfz30_1 := blk_frozen BK341.out 1;obtain ⟨Ao31, co31, eo31⟩ := Kd.R_slice HO340.out;subst eo31) | ((with_reducible refine gate_callee (f := 17) rfl ?_);refine goesL_ (some 36) rfl rfl Tryd.func17 (by kernel_rfl) rfl #[.slice A1 l1.length c1] rfl mM ?_;(with_reducible refine (laws_toIntS.calls k _ _ l1 t342 _ ?side1 ?side2 A14.out).mono ?_);(case side1 => exact Kd.C_below HR1.out (by exact bB));(case side2 => exact HC1.out);rintro e w32 ⟨v343, rfl, ho0, hb⟩;refine ⟨_, rfl, ?_⟩;have n0_ := Aside0.mk (Kd.R_below (by (with_reducible repeat (first | apply Kd.R_alloc | apply Kd.S_alloc | apply Kd.N_alloc | apply Kd.R_drewN | apply Kd.S_drewN | apply Kd.N_drewN | apply Kd.R_drew | apply Kd.S_drew | apply Kd.N_drew));exact (Kd.R_mono (Kd.R_far (p := ⟨gb341, 1, none⟩) (Kd.R_far (p := ⟨gb341, 0, none⟩) (Kd.R_types HO329.out BK341.out (by decide)) (fun _ hk => hk.2) (.int .i64 t337)) (fun _ hk => hk.2) (.slice Ao31 t338.length co31)) (fun _ h_ => h_.1))) hb);have n1_ := Aside0.mk (Kd.R_elder' (by (with_reducible repeat (first | apply Kd.R_alloc | apply Kd.S_alloc | apply Kd.N_alloc | apply Kd.R_drewN | apply Kd.S_drewN | apply Kd.N_drewN | apply Kd.R_drew | apply Kd.S_drew | apply Kd.N_drew));exact (Kd.R_mono (Kd.R_far (p := ⟨gb341, 1, none⟩) (Kd.R_far (p := ⟨gb341, 0, none⟩) (Kd.R_types HO332.out BK341.out (by decide)) (fun _ hk => hk.2) (.int .i64 t337)) (fun _ hk => hk.2) (.slice Ao31 t338.length co31)) (fun _ h_ => h_.1))) (Kd.R_base ho0) hb);have n2_ := Aside0.mk (Kd.N_elder' (by (with_reducible repeat (first | apply Kd.R_alloc | apply Kd.S_alloc | apply Kd.N_alloc | apply Kd.R_drewN | apply Kd.S_drewN | apply Kd.N_drewN | apply Kd.R_drew | apply Kd.S_drew | apply Kd.N_drew));exact (Kd.N_mono (ok' := fun k_ => True ∧ some k_ ≠ (.slice Ao31 t338.length co31 : Value).ownBlock) (Kd.N_far (p := ⟨gb341, 1, none⟩) (Kd.N_far (p := ⟨gb341, 0, none⟩) HO335.out (fun _ hk => hk.2) (.int .i64 t337)) (fun _ hk => hk.2) (.slice Ao31 t338.length co31)) (fun _ h_ => ⟨trivial, h_.1.2⟩))) (Kd.R_base ho0) hb);have n3_ := Aside0.mk (Kd.R_below (by (with_reducible repeat (first | apply Kd.R_alloc | apply Kd.S_alloc | apply Kd.N_alloc | apply Kd.R_drewN | apply Kd.S_drewN | apply Kd.N_drewN | apply Kd.R_drew | apply Kd.S_drew | apply Kd.N_drew));exact (Kd.R_mono (Kd.R_far (p := ⟨gb341, 1, none⟩) (Kd.R_far (p := ⟨gb341, 0, none⟩) (Kd.R_types HO340.out BK341.out (by decide)) (fun _ hk => hk.2) (.int .i64 t337)) (fun _ hk => hk.2) (.slice Ao31 t338.length co31)) (fun _ h_ => h_.1))) hb);have n4_ := Aside0.mk (Kd.R_lower (Kd.R_new' ho0 (Kd.R_lt (by (with_reducible repeat (first | apply Kd.R_alloc | apply Kd.S_alloc | apply Kd.N_alloc | apply Kd.R_drewN | apply Kd.S_drewN | apply Kd.N_drewN | apply Kd.R_drew | apply Kd.S_drew | apply Kd.N_drew));exact (Kd.R_mono (Kd.R_far (p := ⟨gb341, 1, none⟩) (Kd.R_far (p := ⟨gb341, 0, none⟩) (Kd.R_types HO332.out BK341.out (by decide)) (fun _ hk => hk.2) (.int .i64 t337)) (fun _ hk => hk.2) (.slice Ao31 t338.length co31)) (fun _ h_ => h_.1))))) (below_size (by exact bB)));have n5_ := Aside0.mk (blk_below (g := gb324) (o := .cells #[.int .i64 a0_0, .slice A0_1 l0_1.length c0_1] 24 (0, 0)) (by refine kP ?_;refine blk_far ?_ NB324_341.out _;refine kP ?_;refine blk_far ?_ NB324_341.out _;exact kP BK324.out) hb);have n6_ := Aside0.mk (blk_below (g := gb341) (o := .cells #[.int .i64 t337, .slice Ao31 t338.length co31] 28 (0, 0)) (by refine kP ?_;refine blk_put (cs := #[.int .i64 t337, .slice none 0 0]) ?_ 1 _ rfl;refine kP ?_;refine blk_put (cs := #[.int .i64 0, .slice none 0 0]) ?_ 0 _ rfl;exact kP BK341.out) hb);have n7_ := Aside0.mk (below_step (by exact bB) hb);clear HO329;clear HO332;clear HO335;clear HO340;clear BK324;clear BK341;clear HB;have HO329 := n0_;have HO332 := n1_;have HO335 := n2_;have HO340 := n3_;have HO344 := n4_;have BK324 := n5_;have BK341 := n6_;have HB := n7_;clear n0_ n1_ n2_ n3_ n4_ n5_ n6_ n7_;(try clear hb);(try clear hb2);(try clear hk);(try clear hi);(try clear ho0);have hcz33_0 : w32.cell? ⟨gb341, 0, none⟩ = some (.int .i64 t337) := (blk_cell BK341.out 0).trans rfl;have hcz33_1 : w32.cell? ⟨gb341, 1, none⟩ = some (.slice Ao31 t338.length co31) := (blk_cell BK341.out 1).trans rfl;have hfz33_0 := blk_frozen BK341.out 0;have hfz33_1 := blk_frozen BK341.out 1;obtain ⟨Ao34, co34, eo34⟩ := Kd.R_slice HO344.out;subst eo34) | ((with_reducible refine gate_callee (f := 31) rfl ?_);refine goesL_ (some 40) rfl rfl Tryd.func31 (by kernel_rfl) rfl #[.agg #[.int .i64 t337, .slice Ao31 t338.length co31], .slice Ao34 t342.length co34] rfl mM ?_;(with_reducible refine (impl_ChainsOf.calls k t337 _ _ t338 _ _ t342 t345 t348 _ ?sideT ?side1 ?side2 ?side3 ?side4 A15.out).mono ?_);(case sideT => exact tabG_below HT.out (by exact bB));(case side1 => exact cP (Kd.R_reads' HO340.out).2.2);(case side2 => exact (Kd.R_reads' HO340.out).2.1);(case side3 => exact cP (Kd.R_reads' HO344.out).2.2);(case side4 => exact (Kd.R_reads' HO344.out).2.1);rintro e w35 ⟨v346, rfl, ho0, hb⟩;refine ⟨_, rfl, ?_⟩;obtain ⟨P9_, hp9_⟩ := mine9_old hb;have n0_ := Aside0.mk (Kd.R_below (by (with_reducible repeat (first | apply Kd.R_alloc | apply Kd.S_alloc | apply Kd.N_alloc | apply Kd.R_drewN | apply Kd.S_drewN | apply Kd.N_drewN | apply Kd.R_drew | apply Kd.S_drew | apply Kd.N_drew));exact HO329.out) hb);have n1_ := Aside0.mk (Kd.R_below (by (with_reducible repeat (first | apply Kd.R_alloc | apply Kd.S_alloc | apply Kd.N_alloc | apply Kd.R_drewN | apply Kd.S_drewN | apply Kd.N_drewN | apply Kd.R_drew | apply Kd.S_drew | apply Kd.N_drew));exact HO332.out) hb);have n2_ := Aside0.mk (Kd.N_mono (ok' := fun k_ => ¬ P9_ k_ ∧ some k_ ≠ (.slice Ao31 t338.length co31 : Value).ownBlock ∧ some k_ ≠ (.slice Ao34 t342.length co34 : Value).ownBlock) (Kd.N_old (ok := fun k_ => (True ∧ some k_ ≠ (.slice Ao31 t338.length co31 : Value).ownBlock) ∧ some k_ ≠ (.slice Ao34 t342.length co34 : Value).ownBlock) (by (with_reducible repeat (first | apply Kd.R_alloc | apply Kd.S_alloc | apply Kd.N_alloc | apply Kd.R_drewN | apply Kd.S_drewN | apply Kd.N_drewN | apply Kd.R_drew | apply Kd.S_drew | apply Kd.N_drew));exact HO335.out) hb) (fun k_ hk_ => ⟨fun h_ => absurd ((hp9_ k_).1 h_) (Nat.not_le.mpr hk_.2), hk_.1.1.2, hk_.1.2⟩));have n3_ := Aside0.mk (Kd.R_below (by (with_reducible repeat (first | apply Kd.R_alloc | apply Kd.S_alloc | apply Kd.N_alloc | apply Kd.R_drewN | apply Kd.S_drewN | apply Kd.N_drewN | apply Kd.R_drew | apply Kd.S_drew | apply Kd.N_drew));exact HO340.out) hb);have n4_ := Aside0.mk (Kd.R_mono (ok' := fun k_ => ¬ P9_ k_) (Kd.R_old (ok := fun _ => True) (Kd.R_mono (by (with_reducible repeat (first | apply Kd.R_alloc | apply Kd.S_alloc | apply Kd.N_alloc | apply Kd.R_drewN | apply Kd.S_drewN | apply Kd.N_drewN | apply Kd.R_drew | apply Kd.S_drew | apply Kd.N_drew));exact HO344.out) (fun _ _ => trivial)) hb) (fun k_ hk_ h_ => absurd ((hp9_ k_).1 h_) (Nat.not_le.mpr hk_.2)));have n5_ := Aside0.mk (Kd.S_lower (Kd.S_mono (ok' := fun k_ => P9_ k_) (Kd.S_bound ho0) (fun k_ hk_ => (hp9_ k_).2 hk_.2.1)) (below_size (by exact bB)));have n6_ := Aside0.mk (blk_below (g := gb324) (o := .cells #[.int .i64 a0_0, .slice A0_1 l0_1.length c0_1] 24 (0, 0)) (by exact kP BK324.out) hb);have n7_ := Aside0.mk (blk_below (g := gb341) (o := .cells #[.int .i64 t337, .slice Ao31 t338.length co31] 28 (0, 0)) (by exact kP BK341.out) hb);have n8_ := Aside0.mk (below_step (by exact bB) hb);clear HO329;clear HO332;clear HO335;clear HO340;clear HO344;clear BK324;clear BK341;clear HB;have HO329 := n0_;have HO332 := n1_;have HO335 := n2_;have HO340 := n3_;have HO344 := n4_;have HO347 := n5_;have BK324 := n6_;have BK341 := n7_;have HB := n8_;clear n0_ n1_ n2_ n3_ n4_ n5_ n6_ n7_ n8_;(try clear hb);(try clear hb2);(try clear hk);(try clear hi);(try clear ho0)))
   (try simp only [Act.put, List.setIfInBounds_toArray, List.set_cons_zero, List.set_cons_succ])
   go_cut [51] (fun v51 wc => ∃ (P9_ : Nat → Prop) (kq : Nat) (x51_15 : Bool), v51 = .bool x51_15 ∧ Aside0 (laws_FnExactChainsOf.j0 kq l1 t333 t336 t342 t345 t348 x51_15 a0_0 l0_1 t337 t338 = some r) ∧ Aside0 (kq ≤ k) ∧ Aside0 (Kd.N (Kd.slice 3 (Kd.int .i64)) 32 wc w.heap.size (fun k_ => ¬ P9_ k_ ∧ some k_ ≠ (.slice Ao31 t338.length co31 : Value).ownBlock ∧ some k_ ≠ (.slice Ao34 t342.length co34 : Value).ownBlock) v334 t333) ∧ Aside0 (Kd.R (Kd.int .i64) 3 wc w.heap.size (fun k_ => ¬ P9_ k_) (.slice Ao34 t342.length co34) t342) ∧ Aside0 (Kd.S (Kd.slice 3 (Kd.int .i64)) 32 wc w.heap.size (fun k_ => P9_ k_) v346 t345) ∧ Aside0 (Kd.R k92 92 wc w.heap.size (fun _ => True) (.slice Ao31 t338.length co31) t338) ∧ Aside0 (wc.heap[gb324]? = some (.cells #[.int .i64 a0_0, (.slice A0_1 l0_1.length c0_1)] 24 (0, 0))) ∧ Aside0 (wc.heap[gb341]? = some (.cells #[.int .i64 t337, (.slice Ao31 t338.length co31)] 28 (0, 0))) ∧ Aside0 (Below w.heap.size w wc))
   case first =>
    have H := HC16.out
    clear HC16
    replace H := Option.bind_eq_some_iff.mp H
    obtain ⟨t349, A360, H⟩ := H
    replace H : (if t349 = true then (laws_FnExactChainsOf.j0 k l1 t333 t336 t342 t345 t348 (t348 != t336) a0_0 l0_1 t337 t338) else (laws_FnExactChainsOf.j0 k l1 t333 t336 t342 t345 t348 true a0_0 l0_1 t337 t338)) = some r := H
    have A36 := Aside0.mk A360
    clear A360
    by_cases c37 : t349 = true
    ·subst c37
     have H1 : (laws_FnExactChainsOf.j0 k l1 t333 t336 t342 t345 t348 (t348 != t336) a0_0 l0_1 t337 t338) = some r := by rw [if_pos rfl] at H;exact H
     clear H
     have H := H1
     clear H1
     have H' := Aside0.mk H
     clear H
     obtain ⟨Ao38, co38, eo38⟩ := Kd.S_slice HO347.out
     subst eo38
     obtain ⟨Ao39, co39, eo39⟩ := Kd.N_slice HO335.out
     subst eo39
     go_wp2_with (first | ((with_reducible refine gate_callee (f := 24) rfl ?_);refine goesL_ (some 45) rfl rfl Tryd.func24 (by kernel_rfl) rfl #[.slice Ao38 t345.length co38, .slice Ao39 t333.length co39] rfl mM ?_;(with_reducible refine (laws_eqIntSS.calls k _ _ t345 _ _ t333 true _ ?side1 ?side2 ?side3 ?side4 A36.out).mono ?_);(case side1 => exact cP (Kd.S_reads' HO347.out).2.2);(case side2 => exact (Kd.S_reads' HO347.out).2.1);(case side3 => exact cP (Kd.N_reads' HO335.out).2.2);(case side4 => exact (Kd.N_reads' HO335.out).2.1);rintro e w' ⟨rfl, ⟨nd, rfl⟩⟩;refine ⟨_, rfl, ?_⟩))
     go_meet
     case rel => exact ⟨P9_, _, ((t348 != t336)), (by first | rfl | (simp;done) | (simp [*];done)), H', ⟨by first | omega | exact Nat.le_refl _⟩, ⟨by (with_reducible repeat (first | apply Kd.R_alloc | apply Kd.S_alloc | apply Kd.N_alloc | apply Kd.R_drewN | apply Kd.S_drewN | apply Kd.N_drewN | apply Kd.R_drew | apply Kd.S_drew | apply Kd.N_drew));exact Kd.N_mono HO335.out (fun _ hk => by first | exact hk | exact hk.2 | exact hk.1 | exact hk.2.1 | exact ⟨hk.1, hk.2.1⟩ | trivial)⟩, ⟨by (with_reducible repeat (first | apply Kd.R_alloc | apply Kd.S_alloc | apply Kd.N_alloc | apply Kd.R_drewN | apply Kd.S_drewN | apply Kd.N_drewN | apply Kd.R_drew | apply Kd.S_drew | apply Kd.N_drew));exact Kd.R_mono HO344.out (fun _ hk => by first | exact hk | exact hk.2 | exact hk.1 | exact hk.2.1 | exact ⟨hk.1, hk.2.1⟩ | trivial)⟩, ⟨by (with_reducible repeat (first | apply Kd.R_alloc | apply Kd.S_alloc | apply Kd.N_alloc | apply Kd.R_drewN | apply Kd.S_drewN | apply Kd.N_drewN | apply Kd.R_drew | apply Kd.S_drew | apply Kd.N_drew));exact Kd.S_mono HO347.out (fun _ hk => by first | exact hk | exact hk.2 | exact hk.1 | exact hk.2.1 | exact ⟨hk.1, hk.2.1⟩ | trivial)⟩, ⟨by (with_reducible repeat (first | apply Kd.R_alloc | apply Kd.S_alloc | apply Kd.N_alloc | apply Kd.R_drewN | apply Kd.S_drewN | apply Kd.N_drewN | apply Kd.R_drew | apply Kd.S_drew | apply Kd.N_drew));exact Kd.R_mono HO340.out (fun _ hk => trivial)⟩, ⟨by exact kP BK324.out⟩, ⟨by exact kP BK341.out⟩, ⟨by exact bB⟩⟩
    ·replace c37 := Bool.eq_false_iff.mpr c37
     subst c37
     have H1 : (laws_FnExactChainsOf.j0 k l1 t333 t336 t342 t345 t348 true a0_0 l0_1 t337 t338) = some r := by rw [if_neg (show ¬ (false = true) by decide)] at H;exact H
     clear H
     have H := H1
     clear H1
     have H' := Aside0.mk H
     clear H
     obtain ⟨Ao40, co40, eo40⟩ := Kd.S_slice HO347.out
     subst eo40
     obtain ⟨Ao41, co41, eo41⟩ := Kd.N_slice HO335.out
     subst eo41
     go_wp2_with (first | ((with_reducible refine gate_callee (f := 24) rfl ?_);refine goesL_ (some 45) rfl rfl Tryd.func24 (by kernel_rfl) rfl #[.slice Ao40 t345.length co40, .slice Ao41 t333.length co41] rfl mM ?_;(with_reducible refine (laws_eqIntSS.calls k _ _ t345 _ _ t333 false _ ?side1 ?side2 ?side3 ?side4 A36.out).mono ?_);(case side1 => exact cP (Kd.S_reads' HO347.out).2.2);(case side2 => exact (Kd.S_reads' HO347.out).2.1);(case side3 => exact cP (Kd.N_reads' HO335.out).2.2);(case side4 => exact (Kd.N_reads' HO335.out).2.1);rintro e w' ⟨rfl, ⟨nd, rfl⟩⟩;refine ⟨_, rfl, ?_⟩))
     go_meet
     case rel => exact ⟨P9_, _, (true), (by first | rfl | (simp;done) | (simp [*];done)), H', ⟨by first | omega | exact Nat.le_refl _⟩, ⟨by (with_reducible repeat (first | apply Kd.R_alloc | apply Kd.S_alloc | apply Kd.N_alloc | apply Kd.R_drewN | apply Kd.S_drewN | apply Kd.N_drewN | apply Kd.R_drew | apply Kd.S_drew | apply Kd.N_drew));exact Kd.N_mono HO335.out (fun _ hk => by first | exact hk | exact hk.2 | exact hk.1 | exact hk.2.1 | exact ⟨hk.1, hk.2.1⟩ | trivial)⟩, ⟨by (with_reducible repeat (first | apply Kd.R_alloc | apply Kd.S_alloc | apply Kd.N_alloc | apply Kd.R_drewN | apply Kd.S_drewN | apply Kd.N_drewN | apply Kd.R_drew | apply Kd.S_drew | apply Kd.N_drew));exact Kd.R_mono HO344.out (fun _ hk => by first | exact hk | exact hk.2 | exact hk.1 | exact hk.2.1 | exact ⟨hk.1, hk.2.1⟩ | trivial)⟩, ⟨by (with_reducible repeat (first | apply Kd.R_alloc | apply Kd.S_alloc | apply Kd.N_alloc | apply Kd.R_drewN | apply Kd.S_drewN | apply Kd.N_drewN | apply Kd.R_drew | apply Kd.S_drew | apply Kd.N_drew));exact Kd.S_mono HO347.out (fun _ hk => by first | exact hk | exact hk.2 | exact hk.1 | exact hk.2.1 | exact ⟨hk.1, hk.2.1⟩ | trivial)⟩, ⟨by (with_reducible repeat (first | apply Kd.R_alloc | apply Kd.S_alloc | apply Kd.N_alloc | apply Kd.R_drewN | apply Kd.S_drewN | apply Kd.N_drewN | apply Kd.R_drew | apply Kd.S_drew | apply Kd.N_drew));exact Kd.R_mono HO340.out (fun _ hk => trivial)⟩, ⟨by exact kP BK324.out⟩, ⟨by exact kP BK341.out⟩, ⟨by exact bB⟩⟩
   case rest =>
    clear HC16
    try clear c1
    try clear c2
    try clear p2
    try clear c3
    try clear c3b0
    try clear c3b1
    try clear c6
    try clear c6b0
    try clear c7
    try clear c11
    try clear c13
    try clear c17
    try clear c24
    try clear c29
    try clear c30
    try clear c31
    try clear c37
    try clear hcz18_0
    try clear hcz18_1
    try clear hcz20_0
    try clear hcz20_1
    try clear hcz26_0
    try clear hcz26_1
    try clear hcz30_0
    try clear hcz30_1
    try clear hcz33_0
    try clear hcz33_1
    try clear hcz8_0
    try clear hcz8_1
    try clear hfz18_0
    try clear hfz18_1
    try clear hfz20_0
    try clear hfz20_1
    try clear hfz26_0
    try clear hfz26_1
    try clear hfz30_0
    try clear hfz30_1
    try clear hfz33_0
    try clear hfz33_1
    try clear hfz8_0
    try clear hfz8_1
    obtain ⟨P9_, kq, x51_15, rfl, HA, HJ15, HO_6, HO_9, HO_10, HO_342001, BK324, BK341, HB⟩ := hcut
    cases kq with
    | zero => exact absurd HA.out (by simp [laws_FnExactChainsOf.j0])
    | succ kj15 =>
     have H := HA.out
     clear HA
     simp only [laws_FnExactChainsOf.j0] at H
     by_cases c42 : x51_15 = true
     ·subst c42
      have H1 : (some false) = some r := by rw [if_pos rfl] at H;exact H
      clear H
      have H := H1
      clear H1
      obtain rfl := Option.some.inj H
      go_wp2
      go_ret
      exact ⟨by first | rfl | (simp [errW_none, errW_some] <;> rfl) | (simp [*, errW_none, errW_some] <;> rfl), by exact bB⟩
     ·replace c42 := Bool.eq_false_iff.mpr c42
      subst c42
      have H1 : ((laws_toGraph.f kj15 a0_0 l0_1).bind fun bt350 => ((laws_eqGraph.f kj15 t337 t338 bt350.1 bt350.2).bind fun t354 => (if t354 = true then ((laws_toIntS.f kj15 l1).bind fun t355 => ((laws_eqIntS.f kj15 t342 t355).bind fun t358 => (if t358 = true then ((laws_markGraph.f t337 t338 1).bind fun bt359 => ((laws_markIntS.f kj15 t342 bt359.1).bind fun bt361 => (if bt361.1 < 0 then (laws_FnExactChainsOf.j1 kj15 l1 t333 t336 t345 true a0_0 l0_1) else ((laws_eqIntSS.f kj15 t345 t333).bind fun t363 => (if t363 = true then (laws_FnExactChainsOf.j1 kj15 l1 t333 t336 t345 (t348 != t336) a0_0 l0_1) else (laws_FnExactChainsOf.j1 kj15 l1 t333 t336 t345 true a0_0 l0_1)))))) else (some false)))) else (some false)))) = some r := by rw [if_neg (show ¬ (false = true) by decide)] at H;exact H
      clear H
      have H := H1
      clear H1
      replace H := Option.bind_eq_some_iff.mp H
      obtain ⟨⟨t350, t351⟩, A430, H⟩ := H
      replace H : ((laws_eqGraph.f kj15 t337 t338 t350 t351).bind fun t354 => (if t354 = true then ((laws_toIntS.f kj15 l1).bind fun t355 => ((laws_eqIntS.f kj15 t342 t355).bind fun t358 => (if t358 = true then ((laws_markGraph.f t337 t338 1).bind fun bt359 => ((laws_markIntS.f kj15 t342 bt359.1).bind fun bt361 => (if bt361.1 < 0 then (laws_FnExactChainsOf.j1 kj15 l1 t333 t336 t345 true a0_0 l0_1) else ((laws_eqIntSS.f kj15 t345 t333).bind fun t363 => (if t363 = true then (laws_FnExactChainsOf.j1 kj15 l1 t333 t336 t345 (t348 != t336) a0_0 l0_1) else (laws_FnExactChainsOf.j1 kj15 l1 t333 t336 t345 true a0_0 l0_1)))))) else (some false)))) else (some false))) = some r := H
      have A43 := Aside0.mk A430
      clear A430
      replace H := Option.bind_eq_some_iff.mp H
      obtain ⟨t354, A440, H⟩ := H
      replace H : (if t354 = true then ((laws_toIntS.f kj15 l1).bind fun t355 => ((laws_eqIntS.f kj15 t342 t355).bind fun t358 => (if t358 = true then ((laws_markGraph.f t337 t338 1).bind fun bt359 => ((laws_markIntS.f kj15 t342 bt359.1).bind fun bt361 => (if bt361.1 < 0 then (laws_FnExactChainsOf.j1 kj15 l1 t333 t336 t345 true a0_0 l0_1) else ((laws_eqIntSS.f kj15 t345 t333).bind fun t363 => (if t363 = true then (laws_FnExactChainsOf.j1 kj15 l1 t333 t336 t345 (t348 != t336) a0_0 l0_1) else (laws_FnExactChainsOf.j1 kj15 l1 t333 t336 t345 true a0_0 l0_1)))))) else (some false)))) else (some false)) = some r := H
      have A44 := Aside0.mk A440
      clear A440
      by_cases c45 : t354 = true
      ·subst c45
       have H1 : ((laws_toIntS.f kj15 l1).bind fun t355 => ((laws_eqIntS.f kj15 t342 t355).bind fun t358 => (if t358 = true then ((laws_markGraph.f t337 t338 1).bind fun bt359 => ((laws_markIntS.f kj15 t342 bt359.1).bind fun bt361 => (if bt361.1 < 0 then (laws_FnExactChainsOf.j1 kj15 l1 t333 t336 t345 true a0_0 l0_1) else ((laws_eqIntSS.f kj15 t345 t333).bind fun t363 => (if t363 = true then (laws_FnExactChainsOf.j1 kj15 l1 t333 t336 t345 (t348 != t336) a0_0 l0_1) else (laws_FnExactChainsOf.j1 kj15 l1 t333 t336 t345 true a0_0 l0_1)))))) else (some false)))) = some r := by rw [if_pos rfl] at H;exact H
       clear H
       have H := H1
       clear H1
       replace H := Option.bind_eq_some_iff.mp H
       obtain ⟨t355, A460, H⟩ := H
       replace H : ((laws_eqIntS.f kj15 t342 t355).bind fun t358 => (if t358 = true then ((laws_markGraph.f t337 t338 1).bind fun bt359 => ((laws_markIntS.f kj15 t342 bt359.1).bind fun bt361 => (if bt361.1 < 0 then (laws_FnExactChainsOf.j1 kj15 l1 t333 t336 t345 true a0_0 l0_1) else ((laws_eqIntSS.f kj15 t345 t333).bind fun t363 => (if t363 = true then (laws_FnExactChainsOf.j1 kj15 l1 t333 t336 t345 (t348 != t336) a0_0 l0_1) else (laws_FnExactChainsOf.j1 kj15 l1 t333 t336 t345 true a0_0 l0_1)))))) else (some false))) = some r := H
       have A46 := Aside0.mk A460
       clear A460
       replace H := Option.bind_eq_some_iff.mp H
       obtain ⟨t358, A470, H⟩ := H
       replace H : (if t358 = true then ((laws_markGraph.f t337 t338 1).bind fun bt359 => ((laws_markIntS.f kj15 t342 bt359.1).bind fun bt361 => (if bt361.1 < 0 then (laws_FnExactChainsOf.j1 kj15 l1 t333 t336 t345 true a0_0 l0_1) else ((laws_eqIntSS.f kj15 t345 t333).bind fun t363 => (if t363 = true then (laws_FnExactChainsOf.j1 kj15 l1 t333 t336 t345 (t348 != t336) a0_0 l0_1) else (laws_FnExactChainsOf.j1 kj15 l1 t333 t336 t345 true a0_0 l0_1)))))) else (some false)) = some r := H
       have A47 := Aside0.mk A470
       clear A470
       by_cases c48 : t358 = true
       ·subst c48
        have H1 : ((laws_markGraph.f t337 t338 1).bind fun bt359 => ((laws_markIntS.f kj15 t342 bt359.1).bind fun bt361 => (if bt361.1 < 0 then (laws_FnExactChainsOf.j1 kj15 l1 t333 t336 t345 true a0_0 l0_1) else ((laws_eqIntSS.f kj15 t345 t333).bind fun t363 => (if t363 = true then (laws_FnExactChainsOf.j1 kj15 l1 t333 t336 t345 (t348 != t336) a0_0 l0_1) else (laws_FnExactChainsOf.j1 kj15 l1 t333 t336 t345 true a0_0 l0_1)))))) = some r := by rw [if_pos rfl] at H;exact H
        clear H
        have H := H1
        clear H1
        replace H := Option.bind_eq_some_iff.mp H
        obtain ⟨⟨t359, t360⟩, A490, H⟩ := H
        replace H : ((laws_markIntS.f kj15 t342 t359).bind fun bt361 => (if bt361.1 < 0 then (laws_FnExactChainsOf.j1 kj15 l1 t333 t336 t345 true a0_0 l0_1) else ((laws_eqIntSS.f kj15 t345 t333).bind fun t363 => (if t363 = true then (laws_FnExactChainsOf.j1 kj15 l1 t333 t336 t345 (t348 != t336) a0_0 l0_1) else (laws_FnExactChainsOf.j1 kj15 l1 t333 t336 t345 true a0_0 l0_1))))) = some r := H
        have A49 := Aside0.mk A490
        clear A490
        replace H := Option.bind_eq_some_iff.mp H
        obtain ⟨⟨t361, t362⟩, A500, H⟩ := H
        replace H : (if t361 < 0 then (laws_FnExactChainsOf.j1 kj15 l1 t333 t336 t345 true a0_0 l0_1) else ((laws_eqIntSS.f kj15 t345 t333).bind fun t363 => (if t363 = true then (laws_FnExactChainsOf.j1 kj15 l1 t333 t336 t345 (t348 != t336) a0_0 l0_1) else (laws_FnExactChainsOf.j1 kj15 l1 t333 t336 t345 true a0_0 l0_1)))) = some r := H
        have A50 := Aside0.mk A500
        clear A500
        have HC51 := Aside0.mk H
        clear H
        try go_wp2
        have n0_ := Aside0.mk (Kd.N_drew HO_6.out)
        have n1_ := Aside0.mk (Kd.R_drew HO_9.out)
        have n2_ := Aside0.mk (Kd.S_drew HO_10.out)
        have n3_ := Aside0.mk (Kd.R_drew HO_342001.out)
        have n4_ := Aside0.mk (blk_drew BK324.out)
        have n5_ := Aside0.mk (blk_drew BK341.out)
        have n6_ := Aside0.mk (below_drew1 HB.out)
        clear HO_6
        clear HO_9
        clear HO_10
        clear HO_342001
        clear BK324
        clear BK341
        clear HB
        have HO_6 := n0_
        have HO_9 := n1_
        have HO_10 := n2_
        have HO_342001 := n3_
        have BK324 := n4_
        have BK341 := n5_
        have HB := n6_
        clear n0_ n1_ n2_ n3_ n4_ n5_ n6_
        refine start_ (n := 5) (S := fun w' => w'.cell? ⟨gb341, 0, none⟩ = some (.int .i64 t337) ∧ w'.cell? ⟨gb341, 1, none⟩ = some (.slice Ao31 t338.length co31) ∧ w'.cell? ⟨gb324, 0, none⟩ = some (.int .i64 a0_0) ∧ w'.cell? ⟨gb324, 1, none⟩ = some (.slice A0_1 l0_1.length c0_1)) (ds := []) #[false,false,false,false,false] (by kernel_rfl) rfl rfl ⟨(blk_cell BK341.out 0).trans rfl, (blk_cell BK341.out 1).trans rfl, (blk_cell BK324.out 0).trans rfl, (blk_cell BK324.out 1).trans rfl⟩ (fun hHeld => ?_)
        generalize wc.drew = w52 at HO_6 HO_9 HO_10 HO_342001 BK324 BK341 HB hHeld ⊢
        refine take_ (i := 0) (N := some 52) (v := ?_) (a' := ?_) #[true,false,false,false,false] rfl rfl (by kernel_rfl) (fun _ _ _ h => h) (Or.inl ⟨by rfl, ?_⟩) hHeld ?_ ?_
        rotate_left
        ·rintro w' ⟨s0, s1, s2, s3⟩
         go_simp
         with_reducible rfl
        rotate_left
        ·simp only [Act.put, List.setIfInBounds_toArray, List.set_cons_zero, List.set_cons_succ, i64_w, i32_w]
         rfl
        refine take_ (i := 1) (N := some 53) (v := ?_) (a' := ?_) #[true,true,false,false,false] rfl rfl (by kernel_rfl) (fun _ _ _ h => h) (Or.inl ⟨by rfl, ?_⟩) hHeld ?_ ?_
        rotate_left
        ·rintro w' ⟨s0, s1, s2, s3⟩
         go_simp
         with_reducible rfl
        rotate_left
        ·simp only [Act.put, List.setIfInBounds_toArray, List.set_cons_zero, List.set_cons_succ, i64_w, i32_w]
         rfl
        refine one_ (i := 2) (N := some 54) #[true,true,true,false,false] rfl rfl (by kernel_rfl) (by decide) (fun K hK => ?_)
        refine goes_ Tryd.func13 (by kernel_rfl) rfl #[.agg #[.int .i64 a0_0, .slice A0_1 l0_1.length c0_1]] (by rfl) rfl rfl mM ?_
        with_reducible refine (laws_toGraph.calls kj15 a0_0 _ _ l0_1 t350 t351 _ ?side1 ?side2 A43.out).mono ?_
        (case side1 => exact cP (Kd.C_below HR0_1.out HB.out))
        (case side2 => exact HC0_1.out)
        rintro e w53 ⟨v352, rfl, ho0, hb⟩
        refine ⟨_, rfl, ?_⟩
        have n0_ := Aside0.mk (Kd.N_below (by (with_reducible repeat (first | apply Kd.R_alloc | apply Kd.S_alloc | apply Kd.N_alloc | apply Kd.R_drewN | apply Kd.S_drewN | apply Kd.N_drewN | apply Kd.R_drew | apply Kd.S_drew | apply Kd.N_drew));exact HO_6.out) hb)
        have n1_ := Aside0.mk (Kd.R_below (by (with_reducible repeat (first | apply Kd.R_alloc | apply Kd.S_alloc | apply Kd.N_alloc | apply Kd.R_drewN | apply Kd.S_drewN | apply Kd.N_drewN | apply Kd.R_drew | apply Kd.S_drew | apply Kd.N_drew));exact HO_9.out) hb)
        have n2_ := Aside0.mk (Kd.S_below (by (with_reducible repeat (first | apply Kd.R_alloc | apply Kd.S_alloc | apply Kd.N_alloc | apply Kd.R_drewN | apply Kd.S_drewN | apply Kd.N_drewN | apply Kd.R_drew | apply Kd.S_drew | apply Kd.N_drew));exact HO_10.out) hb)
        have n3_ := Aside0.mk (Kd.R_elder' (by (with_reducible repeat (first | apply Kd.R_alloc | apply Kd.S_alloc | apply Kd.N_alloc | apply Kd.R_drewN | apply Kd.S_drewN | apply Kd.N_drewN | apply Kd.R_drew | apply Kd.S_drew | apply Kd.N_drew));exact HO_342001.out) (Kd.R_base ho0) hb)
        have n4_ := Aside0.mk (Kd.R_lower (Kd.R_new' ho0 (Kd.R_lt (by (with_reducible repeat (first | apply Kd.R_alloc | apply Kd.S_alloc | apply Kd.N_alloc | apply Kd.R_drewN | apply Kd.S_drewN | apply Kd.N_drewN | apply Kd.R_drew | apply Kd.S_drew | apply Kd.N_drew));exact HO_342001.out))) (below_size (by exact bB)))
        have n5_ := Aside0.mk (blk_below (g := gb324) (o := .cells #[.int .i64 a0_0, .slice A0_1 l0_1.length c0_1] 24 (0, 0)) (by exact kP BK324.out) hb)
        have n6_ := Aside0.mk (blk_below (g := gb341) (o := .cells #[.int .i64 t337, .slice Ao31 t338.length co31] 28 (0, 0)) (by exact kP BK341.out) hb)
        have n7_ := Aside0.mk (below_step (by exact bB) hb)
        clear HO_6
        clear HO_9
        clear HO_10
        clear HO_342001
        clear BK324
        clear BK341
        clear HB
        have HO_6 := n0_
        have HO_9 := n1_
        have HO_10 := n2_
        have HO_342001 := n3_
        have HO353 := n4_
        have BK324 := n5_
        have BK341 := n6_
        have HB := n7_
        clear n0_ n1_ n2_ n3_ n4_ n5_ n6_ n7_
        (try clear hb)
        (try clear hb2)
        (try clear hk)
        (try clear hi)
        (try clear ho0)
        obtain ⟨Ao54, co54, eo54⟩ := Kd.R_slice HO353.out
        (first | subst eo54 | (injection eo54 with f1_ f2_ f3_;have f4_ := f1_.symm;have f5_ := f3_.symm;clear f1_ f2_ f3_;subst f4_;subst f5_))
        refine hK.out _ _ ⟨(blk_cell BK341.out 0).trans rfl, (blk_cell BK341.out 1).trans rfl, (blk_cell BK324.out 0).trans rfl, (blk_cell BK324.out 1).trans rfl⟩ (fun hHeld => ?_)
        clear hK K
        refine norm_ (a' := ?_) ?_ ?_
        rotate_left
        ·show Act.put _ (some 54) _ = _
         simp only [Act.put, List.setIfInBounds_toArray, List.set_cons_zero, List.set_cons_succ, i64_w, i32_w]
         rfl
        refine one_ (i := 3) (N := some 55) #[true,true,true,true,false] rfl rfl (by kernel_rfl) (by decide) (fun K hK => ?_)
        refine goes_ Tryd.func15 (by kernel_rfl) rfl #[.agg #[.int .i64 t337, .slice Ao31 t338.length co31], .agg #[.int .i64 t350, .slice Ao54 t351.length co54]] (by rfl) rfl rfl mM ?_
        with_reducible refine (laws_eqGraph.calls kj15 t337 _ _ t338 t350 _ _ t351 true _ ?side1 ?side2 ?side3 ?side4 A44.out).mono ?_
        (case side1 => exact cP (Kd.R_reads' HO_342001.out).2.2)
        (case side2 => exact (Kd.R_reads' HO_342001.out).2.1)
        (case side3 => exact cP (Kd.R_reads' HO353.out).2.2)
        (case side4 => exact (Kd.R_reads' HO353.out).2.1)
        rintro e w55 ⟨rfl, hb⟩
        refine ⟨_, rfl, ?_⟩
        have n0_ := Aside0.mk (Kd.N_below (by (with_reducible repeat (first | apply Kd.R_alloc | apply Kd.S_alloc | apply Kd.N_alloc | apply Kd.R_drewN | apply Kd.S_drewN | apply Kd.N_drewN | apply Kd.R_drew | apply Kd.S_drew | apply Kd.N_drew));exact HO_6.out) hb)
        have n1_ := Aside0.mk (Kd.R_below (by (with_reducible repeat (first | apply Kd.R_alloc | apply Kd.S_alloc | apply Kd.N_alloc | apply Kd.R_drewN | apply Kd.S_drewN | apply Kd.N_drewN | apply Kd.R_drew | apply Kd.S_drew | apply Kd.N_drew));exact HO_9.out) hb)
        have n2_ := Aside0.mk (Kd.S_below (by (with_reducible repeat (first | apply Kd.R_alloc | apply Kd.S_alloc | apply Kd.N_alloc | apply Kd.R_drewN | apply Kd.S_drewN | apply Kd.N_drewN | apply Kd.R_drew | apply Kd.S_drew | apply Kd.N_drew));exact HO_10.out) hb)
        have n3_ := Aside0.mk (Kd.R_below (by (with_reducible repeat (first | apply Kd.R_alloc | apply Kd.S_alloc | apply Kd.N_alloc | apply Kd.R_drewN | apply Kd.S_drewN | apply Kd.N_drewN | apply Kd.R_drew | apply Kd.S_drew | apply Kd.N_drew));exact HO_342001.out) hb)
        have n4_ := Aside0.mk (Kd.R_below (by (with_reducible repeat (first | apply Kd.R_alloc | apply Kd.S_alloc | apply Kd.N_alloc | apply Kd.R_drewN | apply Kd.S_drewN | apply Kd.N_drewN | apply Kd.R_drew | apply Kd.S_drew | apply Kd.N_drew));exact HO353.out) hb)
        have n5_ := Aside0.mk (blk_below (g := gb324) (o := .cells #[.int .i64 a0_0, .slice A0_1 l0_1.length c0_1] 24 (0, 0)) (by exact kP BK324.out) hb)
        have n6_ := Aside0.mk (blk_below (g := gb341) (o := .cells #[.int .i64 t337, .slice Ao31 t338.length co31] 28 (0, 0)) (by exact kP BK341.out) hb)
        have n7_ := Aside0.mk (below_step (by exact bB) hb)
        clear HO_6
        clear HO_9
        clear HO_10
        clear HO_342001
        clear HO353
        clear BK324
        clear BK341
        clear HB
        have HO_6 := n0_
        have HO_9 := n1_
        have HO_10 := n2_
        have HO_342001 := n3_
        have HO353 := n4_
        have BK324 := n5_
        have BK341 := n6_
        have HB := n7_
        clear n0_ n1_ n2_ n3_ n4_ n5_ n6_ n7_
        (try clear hb)
        (try clear hb2)
        (try clear hk)
        (try clear hi)
        refine hK.out _ _ ⟨(blk_cell BK341.out 0).trans rfl, (blk_cell BK341.out 1).trans rfl, (blk_cell BK324.out 0).trans rfl, (blk_cell BK324.out 1).trans rfl⟩ (fun hHeld => ?_)
        clear hK K
        refine norm_ (a' := ?_) ?_ ?_
        rotate_left
        ·show Act.put _ (some 55) _ = _
         simp only [Act.put, List.setIfInBounds_toArray, List.set_cons_zero, List.set_cons_succ, i64_w, i32_w]
         rfl
        refine pure_ (i := 4) (N := some 56) (v := ?_) (a' := ?_) #[true,true,true,true,true] rfl rfl (by kernel_rfl) (fun _ _ _ h => h) (Or.inl ⟨by rfl, ?_⟩) ?_ ?_
        rotate_left
        ·intro w'
         go_simp
         with_reducible rfl
        rotate_left
        ·simp only [Act.put, List.setIfInBounds_toArray, List.set_cons_zero, List.set_cons_succ, i64_w, i32_w]
         rfl
        refine done_ (by kernel_rfl) ?_
        go_upto_region 20 with (first | ((with_reducible refine gate_callee (f := 17) rfl ?_);refine goesL_ (some 59) rfl rfl Tryd.func17 (by kernel_rfl) rfl #[.slice A1 l1.length c1] rfl mM ?_;(with_reducible refine (laws_toIntS.calls kj15 _ _ l1 t355 _ ?side1 ?side2 A46.out).mono ?_);(case side1 => exact cP (Kd.C_below HR1.out HB.out));(case side2 => exact HC1.out);rintro e w56 ⟨v356, rfl, ho0, hb⟩;refine ⟨_, rfl, ?_⟩;have n0_ := Aside0.mk (Kd.N_below (by (with_reducible repeat (first | apply Kd.R_alloc | apply Kd.S_alloc | apply Kd.N_alloc | apply Kd.R_drewN | apply Kd.S_drewN | apply Kd.N_drewN | apply Kd.R_drew | apply Kd.S_drew | apply Kd.N_drew));exact HO_6.out) hb);have n1_ := Aside0.mk (Kd.R_elder' (by (with_reducible repeat (first | apply Kd.R_alloc | apply Kd.S_alloc | apply Kd.N_alloc | apply Kd.R_drewN | apply Kd.S_drewN | apply Kd.N_drewN | apply Kd.R_drew | apply Kd.S_drew | apply Kd.N_drew));exact HO_9.out) (Kd.R_base ho0) hb);have n2_ := Aside0.mk (Kd.S_below (by (with_reducible repeat (first | apply Kd.R_alloc | apply Kd.S_alloc | apply Kd.N_alloc | apply Kd.R_drewN | apply Kd.S_drewN | apply Kd.N_drewN | apply Kd.R_drew | apply Kd.S_drew | apply Kd.N_drew));exact HO_10.out) hb);have n3_ := Aside0.mk (Kd.R_below (by (with_reducible repeat (first | apply Kd.R_alloc | apply Kd.S_alloc | apply Kd.N_alloc | apply Kd.R_drewN | apply Kd.S_drewN | apply Kd.N_drewN | apply Kd.R_drew | apply Kd.S_drew | apply Kd.N_drew));exact HO_342001.out) hb);have n4_ := Aside0.mk (Kd.R_below (by (with_reducible repeat (first | apply Kd.R_alloc | apply Kd.S_alloc | apply Kd.N_alloc | apply Kd.R_drewN | apply Kd.S_drewN | apply Kd.N_drewN | apply Kd.R_drew | apply Kd.S_drew | apply Kd.N_drew));exact HO353.out) hb);have n5_ := Aside0.mk (Kd.R_lower (Kd.R_new' ho0 (Kd.R_lt (by (with_reducible repeat (first | apply Kd.R_alloc | apply Kd.S_alloc | apply Kd.N_alloc | apply Kd.R_drewN | apply Kd.S_drewN | apply Kd.N_drewN | apply Kd.R_drew | apply Kd.S_drew | apply Kd.N_drew));exact HO_9.out))) (below_size (by exact bB)));have n6_ := Aside0.mk (blk_below (g := gb324) (o := .cells #[.int .i64 a0_0, .slice A0_1 l0_1.length c0_1] 24 (0, 0)) (by exact kP BK324.out) hb);have n7_ := Aside0.mk (blk_below (g := gb341) (o := .cells #[.int .i64 t337, .slice Ao31 t338.length co31] 28 (0, 0)) (by exact kP BK341.out) hb);have n8_ := Aside0.mk (below_step (by exact bB) hb);clear HO_6;clear HO_9;clear HO_10;clear HO_342001;clear HO353;clear BK324;clear BK341;clear HB;have HO_6 := n0_;have HO_9 := n1_;have HO_10 := n2_;have HO_342001 := n3_;have HO353 := n4_;have HO357 := n5_;have BK324 := n6_;have BK341 := n7_;have HB := n8_;clear n0_ n1_ n2_ n3_ n4_ n5_ n6_ n7_ n8_;(try clear hb);(try clear hb2);(try clear hk);(try clear hi);(try clear ho0);obtain ⟨Ao57, co57, eo57⟩ := Kd.R_slice HO357.out;subst eo57) | ((with_reducible refine gate_callee (f := 19) rfl ?_);refine goesL_ (some 60) rfl rfl Tryd.func19 (by kernel_rfl) rfl #[.slice Ao34 t342.length co34, .slice Ao57 t355.length co57] rfl mM ?_;(with_reducible refine (laws_eqIntS.calls kj15 _ _ t342 _ _ t355 true _ ?side1 ?side2 ?side3 ?side4 A47.out).mono ?_);(case side1 => exact cP (Kd.R_reads' HO_9.out).2.2);(case side2 => exact (Kd.R_reads' HO_9.out).2.1);(case side3 => exact cP (Kd.R_reads' HO357.out).2.2);(case side4 => exact (Kd.R_reads' HO357.out).2.1);rintro e w' ⟨rfl, ⟨nd, rfl⟩⟩;refine ⟨_, rfl, ?_⟩;have hnb58 := NB341_324.out;have hnc58 := NB324_341.out;have hcz59_0 : w56.cell? ⟨gb341, 0, none⟩ = some (.int .i64 t337) := (blk_cell BK341.out 0).trans rfl;have hcz59_1 : w56.cell? ⟨gb341, 1, none⟩ = some (.slice Ao31 t338.length co31) := (blk_cell BK341.out 1).trans rfl;have hfz59_0 := blk_frozen BK341.out 0;have hfz59_1 := blk_frozen BK341.out 1) | ((with_reducible refine gate_callee (f := 27) rfl ?_);refine goesL_ (some 64) rfl rfl Tryd.func27 (by kernel_rfl) rfl #[.agg #[.int .i64 t337, .slice Ao31 t338.length co31], .int .i64 1] rfl mM ?_;(with_reducible refine (laws_markGraph.calls t337 (fun k_ => some k_ = (.slice Ao31 t338.length co31 : Value).ownBlock) (.slice Ao31 t338.length co31) t338 1 t359 t360 w _ ?side1 ?side2 A49.out).mono ?_);(case side1 => exact bB);(case side2 => exact Kd.R_tight rfl HO_342001.out);rintro e w60 ⟨rfl, hy0, hb, hkp⟩;refine ⟨_, rfl, ?_⟩;have n0_ := Aside0.mk (Kd.N_mono (ok' := fun k_ => ¬ P9_ k_ ∧ some k_ ≠ (.slice Ao34 t342.length co34 : Value).ownBlock) (Kd.N_keptB HO_6.out hkp (fun k_ hk_ hs_ => hk_.2.1 hs_)) (fun k_ hk_ => ⟨hk_.1.1, hk_.1.2.2⟩));have n1_ := Aside0.mk (Kd.R_mono (ok' := fun k_ => ¬ P9_ k_) (Kd.R_keptB ((Kd.R_apart' HO_9.out (Kd.R_typed HO_342001.out) (by decide))) hkp (fun k_ hk_ hs_ => (hk_.2) hs_)) (fun k_ hk_ => hk_.1.1.1));have n2_ := Aside0.mk (Kd.S_mono (ok' := fun k_ => P9_ k_) (Kd.S_keptB (Kd.S_apart' HO_10.out (Kd.R_typed HO_342001.out) (by decide)) hkp (fun k_ hk_ hs_ => hk_.2 hs_)) (fun k_ hk_ => hk_.1.1));have n3_ := Aside0.mk (Kd.R_reok rfl hy0 (fun k_ e_ => HO_342001.out.1 k_ e_));have n4_ := Aside0.mk (blk_kept (by exact kP BK324.out) hkp (fun hs_ => (fun e_ => (Kd.R_ne HO_342001.out BK324.out (by decide)) e_) hs_));have n5_ := Aside0.mk (blk_kept (by exact kP BK341.out) hkp (fun hs_ => (fun e_ => (Kd.R_ne HO_342001.out BK341.out (by decide)) e_) hs_));have n6_ := Aside0.mk (Kd.R_mono (ok' := fun k_ => some k_ ≠ (.slice Ao31 t338.length co31 : Value).ownBlock) (Kd.R_keptB (HO353.out) hkp (fun k_ hk_ hs_ => (hk_.2) hs_)) (fun k_ hk_ => hk_.1.2));have n7_ := Aside0.mk (Kd.R_mono (ok' := fun k_ => some k_ ≠ (.slice Ao34 t342.length co34 : Value).ownBlock) (Kd.R_keptB ((Kd.R_apart' HO357.out (Kd.R_typed HO_342001.out) (by decide))) hkp (fun k_ hk_ hs_ => (hk_.2) hs_)) (fun k_ hk_ => hk_.1.1.2));have n8_ := Aside0.mk (hb);clear HO_6;clear HO_9;clear HO_10;clear HO_342001;clear BK324;clear BK341;clear HO353;clear HO357;clear HB;have HO_6 := n0_;have HO_9 := n1_;have HO_10 := n2_;have HO_342001 := n3_;have BK324 := n4_;have BK341 := n5_;have HO353 := n6_;have HO357 := n7_;have HB := n8_;clear n0_ n1_ n2_ n3_ n4_ n5_ n6_ n7_ n8_;(try clear hb);(try clear hkp);(try clear hy0)) | ((with_reducible refine gate_callee (f := 28) rfl ?_);refine goesL_ (some 67) rfl rfl Tryd.func28 (by kernel_rfl) rfl #[.slice Ao34 t342.length co34, .int .i64 t359] rfl mM ?_;(with_reducible refine (laws_markIntS.calls kj15 (fun k_ => some k_ = (.slice Ao34 t342.length co34 : Value).ownBlock) (.slice Ao34 t342.length co34) t342 t359 t361 t362 w _ ?side1 ?side2 A50.out).mono ?_);(case side1 => exact bB);(case side2 => exact Kd.R_tight rfl HO_9.out);rintro e w61 ⟨rfl, hy0, hb, hkp⟩;refine ⟨_, rfl, ?_⟩;have n0_ := Aside0.mk (Kd.N_mono (ok' := fun k_ => ¬ P9_ k_) (Kd.N_keptB HO_6.out hkp (fun k_ hk_ hs_ => hk_.2 hs_)) (fun k_ hk_ => hk_.1.1));have n1_ := Aside0.mk (Kd.R_reok rfl hy0 (fun k_ e_ => HO_9.out.1 k_ e_));have n2_ := Aside0.mk (Kd.S_mono (ok' := fun k_ => P9_ k_) (Kd.S_keptB HO_10.out hkp (fun k_ hk_ hs_ => HO_9.out.1 k_ hs_.symm hk_)) (fun k_ hk_ => hk_.1));have n3_ := Aside0.mk (Kd.R_mono (ok' := fun k_ => some k_ ≠ (.slice Ao54 t351.length co54 : Value).ownBlock) (Kd.R_keptB ((Kd.R_apart' HO_342001.out (Kd.R_typed HO_9.out) (by decide))) hkp (fun k_ hk_ hs_ => (hk_.2) hs_)) (fun k_ hk_ => hk_.1.1.2));have n4_ := Aside0.mk (blk_kept (by exact kP BK324.out) hkp (fun hs_ => (fun e_ => (Kd.R_ne HO_9.out BK324.out (by decide)) e_) hs_));have n5_ := Aside0.mk (blk_kept (by exact kP BK341.out) hkp (fun hs_ => (fun e_ => (Kd.R_ne HO_9.out BK341.out (by decide)) e_) hs_));have n6_ := Aside0.mk (Kd.R_mono (ok' := fun k_ => some k_ ≠ (.slice Ao31 t338.length co31 : Value).ownBlock) (Kd.R_keptB ((Kd.R_apart' HO353.out (Kd.R_typed HO_9.out) (by decide))) hkp (fun k_ hk_ hs_ => (hk_.2) hs_)) (fun k_ hk_ => hk_.1.1));have n7_ := Aside0.mk (Kd.R_mono (ok' := fun k_ => some k_ ≠ (.slice Ao34 t342.length co34 : Value).ownBlock) (Kd.R_keptB (HO357.out) hkp (fun k_ hk_ hs_ => (hk_) hs_)) (fun k_ hk_ => hk_.1));have n8_ := Aside0.mk (hb);clear HO_6;clear HO_9;clear HO_10;clear HO_342001;clear BK324;clear BK341;clear HO353;clear HO357;clear HB;have HO_6 := n0_;have HO_9 := n1_;have HO_10 := n2_;have HO_342001 := n3_;have BK324 := n4_;have BK341 := n5_;have HO353 := n6_;have HO357 := n7_;have HB := n8_;clear n0_ n1_ n2_ n3_ n4_ n5_ n6_ n7_ n8_;(try clear hb);(try clear hkp);(try clear hy0)))
        (try simp only [Act.put, List.setIfInBounds_toArray, List.set_cons_zero, List.set_cons_succ])
        go_cut [80] (fun v80 wc => ∃ (P9_ : Nat → Prop) (kq : Nat) (x80_50 : Bool), v80 = .bool x80_50 ∧ Aside0 (laws_FnExactChainsOf.j1 kq l1 t333 t336 t345 x80_50 a0_0 l0_1 = some r) ∧ Aside0 (kq ≤ kj15) ∧ Aside0 (Kd.N (Kd.slice 3 (Kd.int .i64)) 32 wc w.heap.size (fun k_ => ¬ P9_ k_) v334 t333) ∧ Aside0 (Kd.S (Kd.slice 3 (Kd.int .i64)) 32 wc w.heap.size (fun k_ => P9_ k_) v346 t345) ∧ Aside0 (Kd.R k92 92 wc w.heap.size (fun _ => True) (.slice Ao31 t338.length co31) t360) ∧ Aside0 (wc.heap[gb324]? = some (.cells #[.int .i64 a0_0, (.slice A0_1 l0_1.length c0_1)] 24 (0, 0))) ∧ Aside0 (wc.heap[gb341]? = some (.cells #[.int .i64 t337, (.slice Ao31 t338.length co31)] 28 (0, 0))) ∧ Aside0 (Below w.heap.size w wc))
        case first =>
         have H := HC51.out
         clear HC51
         by_cases c62 : t361 < 0
         ·rw [if_pos c62] at H
          have c62b0 : decide (t361 < 0) = true := decide_eq_true c62
          clear c62
          (first | rw [c62b0] | (simp only [i64_w, i32_w];rw [c62b0]) | skip)
          have H' := Aside0.mk H
          clear H
          go_wp2
          go_meet
          case rel => exact ⟨P9_, _, (true), (by first | rfl | (simp;done) | (simp [*];done)), H', ⟨by have := HJ15.out;first | omega | exact Nat.le_refl _⟩, ⟨by (with_reducible repeat (first | apply Kd.R_alloc | apply Kd.S_alloc | apply Kd.N_alloc | apply Kd.R_drewN | apply Kd.S_drewN | apply Kd.N_drewN | apply Kd.R_drew | apply Kd.S_drew | apply Kd.N_drew));exact HO_6.out⟩, ⟨by (with_reducible repeat (first | apply Kd.R_alloc | apply Kd.S_alloc | apply Kd.N_alloc | apply Kd.R_drewN | apply Kd.S_drewN | apply Kd.N_drewN | apply Kd.R_drew | apply Kd.S_drew | apply Kd.N_drew));exact HO_10.out⟩, ⟨by (with_reducible repeat (first | apply Kd.R_alloc | apply Kd.S_alloc | apply Kd.N_alloc | apply Kd.R_drewN | apply Kd.S_drewN | apply Kd.N_drewN | apply Kd.R_drew | apply Kd.S_drew | apply Kd.N_drew));exact Kd.R_mono HO_342001.out (fun _ hk => trivial)⟩, ⟨by exact kP BK324.out⟩, ⟨by exact kP BK341.out⟩, ⟨by exact bB⟩⟩
         ·rw [if_neg c62] at H
          have c62b0 : decide (t361 < 0) = false := decide_eq_false c62
          clear c62
          (first | rw [c62b0] | (simp only [i64_w, i32_w];rw [c62b0]) | skip)
          replace H := Option.bind_eq_some_iff.mp H
          obtain ⟨t363, A630, H⟩ := H
          replace H : (if t363 = true then (laws_FnExactChainsOf.j1 kj15 l1 t333 t336 t345 (t348 != t336) a0_0 l0_1) else (laws_FnExactChainsOf.j1 kj15 l1 t333 t336 t345 true a0_0 l0_1)) = some r := H
          have A63 := Aside0.mk A630
          clear A630
          by_cases c64 : t363 = true
          ·subst c64
           have H1 : (laws_FnExactChainsOf.j1 kj15 l1 t333 t336 t345 (t348 != t336) a0_0 l0_1) = some r := by rw [if_pos rfl] at H;exact H
           clear H
           have H := H1
           clear H1
           have H' := Aside0.mk H
           clear H
           obtain ⟨Ao65, co65, eo65⟩ := Kd.S_slice HO_10.out
           subst eo65
           obtain ⟨Ao66, co66, eo66⟩ := Kd.N_slice HO_6.out
           subst eo66
           go_wp2_with (first | (go_at_call 24;(with_reducible refine (laws_eqIntSS.calls kj15 _ _ t345 _ _ t333 true _ ?side1 ?side2 ?side3 ?side4 A63.out).mono ?_);(case side1 => exact cP (Kd.S_reads' HO_10.out).2.2);(case side2 => exact (Kd.S_reads' HO_10.out).2.1);(case side3 => exact cP (Kd.N_reads' HO_6.out).2.2);(case side4 => exact (Kd.N_reads' HO_6.out).2.1);rintro e w' ⟨rfl, ⟨nd, rfl⟩⟩))
           go_meet
           case rel => exact ⟨P9_, _, ((t348 != t336)), (by first | rfl | (simp;done) | (simp [*];done)), H', ⟨by have := HJ15.out;first | omega | exact Nat.le_refl _⟩, ⟨by (with_reducible repeat (first | apply Kd.R_alloc | apply Kd.S_alloc | apply Kd.N_alloc | apply Kd.R_drewN | apply Kd.S_drewN | apply Kd.N_drewN | apply Kd.R_drew | apply Kd.S_drew | apply Kd.N_drew));exact HO_6.out⟩, ⟨by (with_reducible repeat (first | apply Kd.R_alloc | apply Kd.S_alloc | apply Kd.N_alloc | apply Kd.R_drewN | apply Kd.S_drewN | apply Kd.N_drewN | apply Kd.R_drew | apply Kd.S_drew | apply Kd.N_drew));exact HO_10.out⟩, ⟨by (with_reducible repeat (first | apply Kd.R_alloc | apply Kd.S_alloc | apply Kd.N_alloc | apply Kd.R_drewN | apply Kd.S_drewN | apply Kd.N_drewN | apply Kd.R_drew | apply Kd.S_drew | apply Kd.N_drew));exact Kd.R_mono HO_342001.out (fun _ hk => trivial)⟩, ⟨by exact kP BK324.out⟩, ⟨by exact kP BK341.out⟩, ⟨by exact bB⟩⟩
          ·replace c64 := Bool.eq_false_iff.mpr c64
           subst c64
           have H1 : (laws_FnExactChainsOf.j1 kj15 l1 t333 t336 t345 true a0_0 l0_1) = some r := by rw [if_neg (show ¬ (false = true) by decide)] at H;exact H
           clear H
           have H := H1
           clear H1
           have H' := Aside0.mk H
           clear H
           obtain ⟨Ao67, co67, eo67⟩ := Kd.S_slice HO_10.out
           subst eo67
           obtain ⟨Ao68, co68, eo68⟩ := Kd.N_slice HO_6.out
           subst eo68
           go_wp2_with (first | (go_at_call 24;(with_reducible refine (laws_eqIntSS.calls kj15 _ _ t345 _ _ t333 false _ ?side1 ?side2 ?side3 ?side4 A63.out).mono ?_);(case side1 => exact cP (Kd.S_reads' HO_10.out).2.2);(case side2 => exact (Kd.S_reads' HO_10.out).2.1);(case side3 => exact cP (Kd.N_reads' HO_6.out).2.2);(case side4 => exact (Kd.N_reads' HO_6.out).2.1);rintro e w' ⟨rfl, ⟨nd, rfl⟩⟩))
           go_meet
           case rel => exact ⟨P9_, _, (true), (by first | rfl | (simp;done) | (simp [*];done)), H', ⟨by have := HJ15.out;first | omega | exact Nat.le_refl _⟩, ⟨by (with_reducible repeat (first | apply Kd.R_alloc | apply Kd.S_alloc | apply Kd.N_alloc | apply Kd.R_drewN | apply Kd.S_drewN | apply Kd.N_drewN | apply Kd.R_drew | apply Kd.S_drew | apply Kd.N_drew));exact HO_6.out⟩, ⟨by (with_reducible repeat (first | apply Kd.R_alloc | apply Kd.S_alloc | apply Kd.N_alloc | apply Kd.R_drewN | apply Kd.S_drewN | apply Kd.N_drewN | apply Kd.R_drew | apply Kd.S_drew | apply Kd.N_drew));exact HO_10.out⟩, ⟨by (with_reducible repeat (first | apply Kd.R_alloc | apply Kd.S_alloc | apply Kd.N_alloc | apply Kd.R_drewN | apply Kd.S_drewN | apply Kd.N_drewN | apply Kd.R_drew | apply Kd.S_drew | apply Kd.N_drew));exact Kd.R_mono HO_342001.out (fun _ hk => trivial)⟩, ⟨by exact kP BK324.out⟩, ⟨by exact kP BK341.out⟩, ⟨by exact bB⟩⟩
        case rest =>
         clear HC51
         try clear c1
         try clear c2
         try clear p2
         try clear c3
         try clear c3b0
         try clear c3b1
         try clear c4
         try clear c5
         try clear c6
         try clear c6b0
         try clear c7
         try clear c11
         try clear c13
         try clear c15
         try clear c17
         try clear c19
         try clear c24
         try clear c27
         try clear c28
         try clear c29
         try clear c30
         try clear c31
         try clear c37
         try clear c42
         try clear c45
         try clear c48
         try clear c58
         try clear c62
         try clear c62b0
         try clear c64
         try clear hcz18_0
         try clear hcz18_1
         try clear hcz20_0
         try clear hcz20_1
         try clear hcz26_0
         try clear hcz26_1
         try clear hcz30_0
         try clear hcz30_1
         try clear hcz33_0
         try clear hcz33_1
         try clear hcz59_0
         try clear hcz59_1
         try clear hcz8_0
         try clear hcz8_1
         try clear hfz18_0
         try clear hfz18_1
         try clear hfz20_0
         try clear hfz20_1
         try clear hfz26_0
         try clear hfz26_1
         try clear hfz30_0
         try clear hfz30_1
         try clear hfz33_0
         try clear hfz33_1
         try clear hfz59_0
         try clear hfz59_1
         try clear hfz8_0
         try clear hfz8_1
         try clear p2
         obtain ⟨P9_, kq, x80_50, rfl, HA, HJ50, HO_6, HO_10, HO_342001, BK324, BK341, HB⟩ := hcut
         have hl342001_50 := (Kd.R_reads' HO_342001.out).1
         rw [hl342001_50] at HO_342001
         (try simp only [hl342001_50])
         (try simp only [hl342001_50] at BK324)
         (try simp only [hl342001_50] at BK341)
         (try simp only [hl342001_50] at HO_6)
         (try simp only [hl342001_50] at HO_10)
         cases kq with
         | zero => exact absurd HA.out (by simp [laws_FnExactChainsOf.j1])
         | succ kj50 =>
          have H := HA.out
          clear HA
          simp only [laws_FnExactChainsOf.j1] at H
          by_cases c69 : x80_50 = true
          ·subst c69
           have H1 : (some false) = some r := by rw [if_pos rfl] at H;exact H
           clear H
           have H := H1
           clear H1
           obtain rfl := Option.some.inj H
           go_wp2
           go_ret
           exact ⟨by first | rfl | (simp [errW_none, errW_some] <;> rfl) | (simp [*, errW_none, errW_some] <;> rfl), by exact bB⟩
          ·replace c69 := Bool.eq_false_iff.mpr c69
           subst c69
           have H1 : ((laws_markIntSS.f kj50 t345 1).bind fun bt364 => ((laws_heldIntSS.f kj50 bt364.2 1).bind fun t366 => (if t366 < 0 then (some false) else (if t366 = bt364.1 then ((laws_toGraph.f kj50 a0_0 l0_1).bind fun bt367 => ((laws_toIntS.f kj50 l1).bind fun t371 => ((impl_ChainsOf.f kj50 bt367.1 bt367.2 t371).bind fun bt374 => ((laws_eqIntSS.f kj50 bt374.1 t333).bind fun t378 => (if t378 = true then (laws_FnExactChainsOf.j2 kj50 bt364.2 bt364.1 (bt374.2 != t336)) else (laws_FnExactChainsOf.j2 kj50 bt364.2 bt364.1 true)))))) else (some false))))) = some r := by rw [if_neg (show ¬ (false = true) by decide)] at H;exact H
           clear H
           have H := H1
           clear H1
           replace H := Option.bind_eq_some_iff.mp H
           obtain ⟨⟨t364, t365⟩, A700, H⟩ := H
           replace H : ((laws_heldIntSS.f kj50 t365 1).bind fun t366 => (if t366 < 0 then (some false) else (if t366 = t364 then ((laws_toGraph.f kj50 a0_0 l0_1).bind fun bt367 => ((laws_toIntS.f kj50 l1).bind fun t371 => ((impl_ChainsOf.f kj50 bt367.1 bt367.2 t371).bind fun bt374 => ((laws_eqIntSS.f kj50 bt374.1 t333).bind fun t378 => (if t378 = true then (laws_FnExactChainsOf.j2 kj50 t365 t364 (bt374.2 != t336)) else (laws_FnExactChainsOf.j2 kj50 t365 t364 true)))))) else (some false)))) = some r := H
           have A70 := Aside0.mk A700
           clear A700
           replace H := Option.bind_eq_some_iff.mp H
           obtain ⟨t366, A710, H⟩ := H
           replace H : (if t366 < 0 then (some false) else (if t366 = t364 then ((laws_toGraph.f kj50 a0_0 l0_1).bind fun bt367 => ((laws_toIntS.f kj50 l1).bind fun t371 => ((impl_ChainsOf.f kj50 bt367.1 bt367.2 t371).bind fun bt374 => ((laws_eqIntSS.f kj50 bt374.1 t333).bind fun t378 => (if t378 = true then (laws_FnExactChainsOf.j2 kj50 t365 t364 (bt374.2 != t336)) else (laws_FnExactChainsOf.j2 kj50 t365 t364 true)))))) else (some false))) = some r := H
           have A71 := Aside0.mk A710
           clear A710
           by_cases c72 : t366 < 0
           ·rw [if_pos c72] at H
            have c72b0 : decide (t366 < 0) = true := decide_eq_true c72
            clear c72
            obtain rfl := Option.some.inj H
            obtain ⟨Ao73, co73, eo73⟩ := Kd.S_slice HO_10.out
            subst eo73
            go_wp2_with (first | ((with_reducible refine gate_callee (f := 32) rfl ?_);refine goesL_ (some 83) rfl rfl Tryd.func32 (by kernel_rfl) rfl #[.slice Ao73 t345.length co73, .int .i64 1] rfl mM ?_;(with_reducible refine (laws_markIntSS.calls kj50 ?P9a0 (.slice Ao73 t345.length co73) t345 1 t364 t365 w _ ?side1 ?side2 A70.out).mono ?_);(case side1 => exact bB);(case side2 => exact mine9 HO_10.out);rintro e w74 ⟨rfl, hy0, hb, hkp⟩;refine ⟨_, rfl, ?_⟩;have n0_ := Aside0.mk (Kd.N_mono (ok' := fun k_ => ¬ P9_ k_) (Kd.N_keptB HO_6.out hkp (fun k_ hk_ hs_ => hk_ hs_.1)) (fun k_ hk_ => hk_.1));have n1_ := Aside0.mk (Kd.S_mono (ok' := fun k_ => True) hy0 (fun _ _ => trivial));have n2_ := Aside0.mk (Kd.R_mono (ok' := fun k_ => True) (Kd.R_keptB (mine9_R HO_342001.out (by decide)) hkp (fun k_ hk_ hs_ => hk_ hs_)) (fun k_ hk_ => trivial));have n3_ := Aside0.mk (blk_kept (by exact kP BK324.out) hkp (fun hs_ => mine9_block hs_ BK324.out (by decide)));have n4_ := Aside0.mk (blk_kept (by exact kP BK341.out) hkp (fun hs_ => mine9_block hs_ BK341.out (by decide)));have n5_ := Aside0.mk (hb);clear HO_6;clear HO_10;clear HO_342001;clear BK324;clear BK341;clear HB;have HO_6 := n0_;have HO_10 := n1_;have HO_342001 := n2_;have BK324 := n3_;have BK341 := n4_;have HB := n5_;clear n0_ n1_ n2_ n3_ n4_ n5_;(try clear hb);(try clear hkp);(try clear hy0)) | ((with_reducible refine gate_callee (f := 33) rfl ?_);refine goesL_ (some 86) rfl rfl Tryd.func33 (by kernel_rfl) rfl #[.slice Ao73 t365.length co73, .int .i64 1] rfl (by (try simp only [List.map_toArray, List.map_cons, List.map_nil]);first | done | (rw [show t365.length = t345.length from (Kd.S_reads' HO_10.out).1.symm] <;> rfl) | rfl | (simp only [List.length_drop, List.length_take];rfl)) ?_;(with_reducible refine (laws_heldIntSS.calls kj50 _ _ t365 1 t366 _ ?side1 ?side2 A71.out).mono ?_);(case side1 => exact cP (Kd.S_reads' HO_10.out).2.2);(case side2 => rw [show t365.length = t345.length from (Kd.S_reads' HO_10.out).1.symm];exact (Kd.S_reads' HO_10.out).2.1);rintro e w' ⟨rfl, ⟨nd, rfl⟩⟩;refine ⟨_, rfl, ?_⟩))
            go_ret
            exact ⟨by first | rfl | (simp [errW_none, errW_some] <;> rfl) | (simp [*, errW_none, errW_some] <;> rfl), by exact bB⟩
           ·rw [if_neg c72] at H
            have c72b0 : decide (t366 < 0) = false := decide_eq_false c72
            clear c72
            by_cases c75 : t366 = t364
            ·rw [if_pos c75] at H
             have c75b0 : (t366 == t364) = true := beq_iff_eq.mpr c75
             have c75b1 : (t366 != t364) = false := bne_eq_false_iff_eq.mpr c75
             clear c75
             replace H := Option.bind_eq_some_iff.mp H
             obtain ⟨⟨t367, t368⟩, A760, H⟩ := H
             replace H : ((laws_toIntS.f kj50 l1).bind fun t371 => ((impl_ChainsOf.f kj50 t367 t368 t371).bind fun bt374 => ((laws_eqIntSS.f kj50 bt374.1 t333).bind fun t378 => (if t378 = true then (laws_FnExactChainsOf.j2 kj50 t365 t364 (bt374.2 != t336)) else (laws_FnExactChainsOf.j2 kj50 t365 t364 true))))) = some r := H
             have A76 := Aside0.mk A760
             clear A760
             replace H := Option.bind_eq_some_iff.mp H
             obtain ⟨t371, A770, H⟩ := H
             replace H : ((impl_ChainsOf.f kj50 t367 t368 t371).bind fun bt374 => ((laws_eqIntSS.f kj50 bt374.1 t333).bind fun t378 => (if t378 = true then (laws_FnExactChainsOf.j2 kj50 t365 t364 (bt374.2 != t336)) else (laws_FnExactChainsOf.j2 kj50 t365 t364 true)))) = some r := H
             have A77 := Aside0.mk A770
             clear A770
             replace H := Option.bind_eq_some_iff.mp H
             obtain ⟨⟨t374, t377⟩, A780, H⟩ := H
             replace H : ((laws_eqIntSS.f kj50 t374 t333).bind fun t378 => (if t378 = true then (laws_FnExactChainsOf.j2 kj50 t365 t364 (t377 != t336)) else (laws_FnExactChainsOf.j2 kj50 t365 t364 true))) = some r := H
             have A78 := Aside0.mk A780
             clear A780
             have HC79 := Aside0.mk H
             clear H
             obtain ⟨Ao80, co80, eo80⟩ := Kd.S_slice HO_10.out
             subst eo80
             go_upto_region 31 with (first | ((with_reducible refine gate_callee (f := 32) rfl ?_);refine goesL_ (some 83) rfl rfl Tryd.func32 (by kernel_rfl) rfl #[.slice Ao80 t345.length co80, .int .i64 1] rfl mM ?_;(with_reducible refine (laws_markIntSS.calls kj50 ?P9a1 (.slice Ao80 t345.length co80) t345 1 t364 t365 w _ ?side1 ?side2 A70.out).mono ?_);(case side1 => exact bB);(case side2 => exact mine9 HO_10.out);rintro e w81 ⟨rfl, hy0, hb, hkp⟩;refine ⟨_, rfl, ?_⟩;have n0_ := Aside0.mk (Kd.N_mono (ok' := fun k_ => ¬ P9_ k_) (Kd.N_keptB HO_6.out hkp (fun k_ hk_ hs_ => hk_ hs_.1)) (fun k_ hk_ => hk_.1));have n1_ := Aside0.mk (Kd.S_mono (ok' := fun k_ => True) hy0 (fun _ _ => trivial));have n2_ := Aside0.mk (Kd.R_mono (ok' := fun k_ => True) (Kd.R_keptB (mine9_R HO_342001.out (by decide)) hkp (fun k_ hk_ hs_ => hk_ hs_)) (fun k_ hk_ => trivial));have n3_ := Aside0.mk (blk_kept (by exact kP BK324.out) hkp (fun hs_ => mine9_block hs_ BK324.out (by decide)));have n4_ := Aside0.mk (blk_kept (by exact kP BK341.out) hkp (fun hs_ => mine9_block hs_ BK341.out (by decide)));have n5_ := Aside0.mk (hb);clear HO_6;clear HO_10;clear HO_342001;clear BK324;clear BK341;clear HB;have HO_6 := n0_;have HO_10 := n1_;have HO_342001 := n2_;have BK324 := n3_;have BK341 := n4_;have HB := n5_;clear n0_ n1_ n2_ n3_ n4_ n5_;(try clear hb);(try clear hkp);(try clear hy0)) | ((with_reducible refine gate_callee (f := 33) rfl ?_);refine goesL_ (some 86) rfl rfl Tryd.func33 (by kernel_rfl) rfl #[.slice Ao80 t365.length co80, .int .i64 1] rfl (by (try simp only [List.map_toArray, List.map_cons, List.map_nil]);first | done | (rw [show t365.length = t345.length from (Kd.S_reads' HO_10.out).1.symm] <;> rfl) | rfl | (simp only [List.length_drop, List.length_take];rfl)) ?_;(with_reducible refine (laws_heldIntSS.calls kj50 _ _ t365 1 t366 _ ?side1 ?side2 A71.out).mono ?_);(case side1 => exact cP (Kd.S_reads' HO_10.out).2.2);(case side2 => rw [show t365.length = t345.length from (Kd.S_reads' HO_10.out).1.symm];exact (Kd.S_reads' HO_10.out).2.1);rintro e w' ⟨rfl, ⟨nd, rfl⟩⟩;refine ⟨_, rfl, ?_⟩;have hnb82 := NB324_341.out;have hnc82 := NB341_324.out;have hcz83_0 : w81.cell? ⟨gb324, 0, none⟩ = some (.int .i64 a0_0) := (blk_cell BK324.out 0).trans rfl;have hcz83_1 : w81.cell? ⟨gb324, 1, none⟩ = some (.slice A0_1 l0_1.length c0_1) := (blk_cell BK324.out 1).trans rfl;have hfz83_0 := blk_frozen BK324.out 0;have hfz83_1 := blk_frozen BK324.out 1) | ((with_reducible refine gate_callee (f := 13) rfl ?_);refine goesL_ (some 94) rfl rfl Tryd.func13 (by kernel_rfl) rfl #[.agg #[.int .i64 a0_0, .slice A0_1 l0_1.length c0_1]] rfl mM ?_;(with_reducible refine (laws_toGraph.calls kj50 a0_0 _ _ l0_1 t367 t368 _ ?side1 ?side2 A76.out).mono ?_);(case side1 => exact cP (Kd.C_below HR0_1.out (by repeat (first | (with_reducible first | exact HB.out | apply below_alloc | apply pw_below_drewN | apply below_drew1 | refine below_set ?_ GE324.out | refine below_set ?_ GE341.out) | exact HB.out))));(case side2 => exact HC0_1.out);rintro e w84 ⟨v369, rfl, ho0, hb⟩;refine ⟨_, rfl, ?_⟩;have n0_ := Aside0.mk (Kd.N_below (by (with_reducible repeat (first | apply Kd.R_alloc | apply Kd.S_alloc | apply Kd.N_alloc | apply Kd.R_drewN | apply Kd.S_drewN | apply Kd.N_drewN | apply Kd.R_drew | apply Kd.S_drew | apply Kd.N_drew));exact HO_6.out) hb);have n1_ := Aside0.mk (Kd.S_below (by (with_reducible repeat (first | apply Kd.R_alloc | apply Kd.S_alloc | apply Kd.N_alloc | apply Kd.R_drewN | apply Kd.S_drewN | apply Kd.N_drewN | apply Kd.R_drew | apply Kd.S_drew | apply Kd.N_drew));exact HO_10.out) hb);have n2_ := Aside0.mk (Kd.R_elder' (by (with_reducible repeat (first | apply Kd.R_alloc | apply Kd.S_alloc | apply Kd.N_alloc | apply Kd.R_drewN | apply Kd.S_drewN | apply Kd.N_drewN | apply Kd.R_drew | apply Kd.S_drew | apply Kd.N_drew));exact HO_342001.out) (Kd.R_base ho0) hb);have n3_ := Aside0.mk (Kd.R_lower (Kd.R_new' ho0 (Kd.R_lt (by (with_reducible repeat (first | apply Kd.R_alloc | apply Kd.S_alloc | apply Kd.N_alloc | apply Kd.R_drewN | apply Kd.S_drewN | apply Kd.N_drewN | apply Kd.R_drew | apply Kd.S_drew | apply Kd.N_drew));exact HO_342001.out))) (below_size (by exact bB)));have n4_ := Aside0.mk (blk_below (g := gb324) (o := .cells #[.int .i64 a0_0, .slice A0_1 l0_1.length c0_1] 24 (0, 0)) (by exact kP BK324.out) hb);have n5_ := Aside0.mk (blk_below (g := gb341) (o := .cells #[.int .i64 t337, .slice Ao31 t360.length co31] 28 (0, 0)) (by exact kP BK341.out) hb);have n6_ := Aside0.mk (below_step (by exact bB) hb);clear HO_6;clear HO_10;clear HO_342001;clear BK324;clear BK341;clear HB;have HO_6 := n0_;have HO_10 := n1_;have HO_342001 := n2_;have HO370 := n3_;have BK324 := n4_;have BK341 := n5_;have HB := n6_;clear n0_ n1_ n2_ n3_ n4_ n5_ n6_;(try clear hb);(try clear hb2);(try clear hk);(try clear hi);(try clear ho0)) | ((with_reducible refine gate_callee (f := 17) rfl ?_);refine goesL_ (some 96) rfl rfl Tryd.func17 (by kernel_rfl) rfl #[.slice A1 l1.length c1] rfl mM ?_;(with_reducible refine (laws_toIntS.calls kj50 _ _ l1 t371 _ ?side1 ?side2 A77.out).mono ?_);(case side1 => exact cP (Kd.C_below HR1.out HB.out));(case side2 => exact HC1.out);rintro e w85 ⟨v372, rfl, ho0, hb⟩;refine ⟨_, rfl, ?_⟩;have n0_ := Aside0.mk (Kd.N_below (by (with_reducible repeat (first | apply Kd.R_alloc | apply Kd.S_alloc | apply Kd.N_alloc | apply Kd.R_drewN | apply Kd.S_drewN | apply Kd.N_drewN | apply Kd.R_drew | apply Kd.S_drew | apply Kd.N_drew));exact HO_6.out) hb);have n1_ := Aside0.mk (Kd.S_below (by (with_reducible repeat (first | apply Kd.R_alloc | apply Kd.S_alloc | apply Kd.N_alloc | apply Kd.R_drewN | apply Kd.S_drewN | apply Kd.N_drewN | apply Kd.R_drew | apply Kd.S_drew | apply Kd.N_drew));exact HO_10.out) hb);have n2_ := Aside0.mk (Kd.R_below (by (with_reducible repeat (first | apply Kd.R_alloc | apply Kd.S_alloc | apply Kd.N_alloc | apply Kd.R_drewN | apply Kd.S_drewN | apply Kd.N_drewN | apply Kd.R_drew | apply Kd.S_drew | apply Kd.N_drew));exact HO_342001.out) hb);have n3_ := Aside0.mk (Kd.R_below (by (with_reducible repeat (first | apply Kd.R_alloc | apply Kd.S_alloc | apply Kd.N_alloc | apply Kd.R_drewN | apply Kd.S_drewN | apply Kd.N_drewN | apply Kd.R_drew | apply Kd.S_drew | apply Kd.N_drew));exact HO370.out) hb);have n4_ := Aside0.mk (Kd.R_lower ho0 (below_size (by exact bB)));have n5_ := Aside0.mk (blk_below (g := gb324) (o := .cells #[.int .i64 a0_0, .slice A0_1 l0_1.length c0_1] 24 (0, 0)) (by exact kP BK324.out) hb);have n6_ := Aside0.mk (blk_below (g := gb341) (o := .cells #[.int .i64 t337, .slice Ao31 t360.length co31] 28 (0, 0)) (by exact kP BK341.out) hb);have n7_ := Aside0.mk (below_step (by exact bB) hb);clear HO_6;clear HO_10;clear HO_342001;clear HO370;clear BK324;clear BK341;clear HB;have HO_6 := n0_;have HO_10 := n1_;have HO_342001 := n2_;have HO370 := n3_;have HO373 := n4_;have BK324 := n5_;have BK341 := n6_;have HB := n7_;clear n0_ n1_ n2_ n3_ n4_ n5_ n6_ n7_;(try clear hb);(try clear hb2);(try clear hk);(try clear hi);(try clear ho0);obtain ⟨Ao86, co86, eo86⟩ := Kd.R_slice HO370.out;subst eo86;obtain ⟨Ao87, co87, eo87⟩ := Kd.R_slice HO373.out;subst eo87) | ((with_reducible refine gate_callee (f := 31) rfl ?_);refine goesL_ (some 97) rfl rfl Tryd.func31 (by kernel_rfl) rfl #[.agg #[.int .i64 t367, .slice Ao86 t368.length co86], .slice Ao87 t371.length co87] rfl mM ?_;(with_reducible refine (impl_ChainsOf.calls kj50 t367 _ _ t368 _ _ t371 t374 t377 _ ?sideT ?side1 ?side2 ?side3 ?side4 A78.out).mono ?_);(case sideT => exact tabG_below HT.out (by exact bB));(case side1 => exact cP (Kd.R_reads' HO370.out).2.2);(case side2 => exact (Kd.R_reads' HO370.out).2.1);(case side3 => exact cP (Kd.R_reads' HO373.out).2.2);(case side4 => exact (Kd.R_reads' HO373.out).2.1);rintro e w88 ⟨v375, rfl, ho0, hb⟩;refine ⟨_, rfl, ?_⟩;have n0_ := Aside0.mk (Kd.N_elder' (by (with_reducible repeat (first | apply Kd.R_alloc | apply Kd.S_alloc | apply Kd.N_alloc | apply Kd.R_drewN | apply Kd.S_drewN | apply Kd.N_drewN | apply Kd.R_drew | apply Kd.S_drew | apply Kd.N_drew));exact HO_6.out) (Kd.S_base ho0) hb);have n1_ := Aside0.mk (Kd.S_elder' (by (with_reducible repeat (first | apply Kd.R_alloc | apply Kd.S_alloc | apply Kd.N_alloc | apply Kd.R_drewN | apply Kd.S_drewN | apply Kd.N_drewN | apply Kd.R_drew | apply Kd.S_drew | apply Kd.N_drew));exact HO_10.out) (Kd.S_base ho0) hb);have n2_ := Aside0.mk (Kd.R_below (by (with_reducible repeat (first | apply Kd.R_alloc | apply Kd.S_alloc | apply Kd.N_alloc | apply Kd.R_drewN | apply Kd.S_drewN | apply Kd.N_drewN | apply Kd.R_drew | apply Kd.S_drew | apply Kd.N_drew));exact HO_342001.out) hb);have n3_ := Aside0.mk (Kd.R_below (by (with_reducible repeat (first | apply Kd.R_alloc | apply Kd.S_alloc | apply Kd.N_alloc | apply Kd.R_drewN | apply Kd.S_drewN | apply Kd.N_drewN | apply Kd.R_drew | apply Kd.S_drew | apply Kd.N_drew));exact HO370.out) hb);have n4_ := Aside0.mk (Kd.R_below (by (with_reducible repeat (first | apply Kd.R_alloc | apply Kd.S_alloc | apply Kd.N_alloc | apply Kd.R_drewN | apply Kd.S_drewN | apply Kd.N_drewN | apply Kd.R_drew | apply Kd.S_drew | apply Kd.N_drew));exact HO373.out) hb);have n5_ := Aside0.mk (Kd.S_lower (Kd.S_new' (Kd.S_new' ho0 (Kd.N_lt (by (with_reducible repeat (first | apply Kd.R_alloc | apply Kd.S_alloc | apply Kd.N_alloc | apply Kd.R_drewN | apply Kd.S_drewN | apply Kd.N_drewN | apply Kd.R_drew | apply Kd.S_drew | apply Kd.N_drew));exact HO_6.out))) (Kd.S_lt (by (with_reducible repeat (first | apply Kd.R_alloc | apply Kd.S_alloc | apply Kd.N_alloc | apply Kd.R_drewN | apply Kd.S_drewN | apply Kd.N_drewN | apply Kd.R_drew | apply Kd.S_drew | apply Kd.N_drew));exact HO_10.out))) (below_size (by exact bB)));have n6_ := Aside0.mk (blk_below (g := gb324) (o := .cells #[.int .i64 a0_0, .slice A0_1 l0_1.length c0_1] 24 (0, 0)) (by exact kP BK324.out) hb);have n7_ := Aside0.mk (blk_below (g := gb341) (o := .cells #[.int .i64 t337, .slice Ao31 t360.length co31] 28 (0, 0)) (by exact kP BK341.out) hb);have n8_ := Aside0.mk (below_step (by exact bB) hb);clear HO_6;clear HO_10;clear HO_342001;clear HO370;clear HO373;clear BK324;clear BK341;clear HB;have HO_6 := n0_;have HO_10 := n1_;have HO_342001 := n2_;have HO370 := n3_;have HO373 := n4_;have HO376 := n5_;have BK324 := n6_;have BK341 := n7_;have HB := n8_;clear n0_ n1_ n2_ n3_ n4_ n5_ n6_ n7_ n8_;(try clear hb);(try clear hb2);(try clear hk);(try clear hi);(try clear ho0)))
             (try simp only [Act.put, List.setIfInBounds_toArray, List.set_cons_zero, List.set_cons_succ])
             go_cut [108] (fun v108 wc => ∃ (kq : Nat) (x108_78 : Bool), v108 = .bool x108_78 ∧ Aside0 (laws_FnExactChainsOf.j2 kq t365 t364 x108_78 = some r) ∧ Aside0 (kq ≤ kj50) ∧ Aside0 (Kd.S (Kd.slice 3 (Kd.int .i64)) 32 wc w.heap.size (fun k_ => True) (.slice Ao80 t345.length co80) t365) ∧ Aside0 (Kd.R k92 92 wc w.heap.size (fun _ => True) (.slice Ao31 t360.length co31) t360) ∧ Aside0 (wc.heap[gb324]? = some (.cells #[.int .i64 a0_0, (.slice A0_1 l0_1.length c0_1)] 24 (0, 0))) ∧ Aside0 (wc.heap[gb341]? = some (.cells #[.int .i64 t337, (.slice Ao31 t360.length co31)] 28 (0, 0))) ∧ Aside0 (Below w.heap.size w wc))
             case first =>
              have H := HC79.out
              clear HC79
              replace H := Option.bind_eq_some_iff.mp H
              obtain ⟨t378, A890, H⟩ := H
              replace H : (if t378 = true then (laws_FnExactChainsOf.j2 kj50 t365 t364 (t377 != t336)) else (laws_FnExactChainsOf.j2 kj50 t365 t364 true)) = some r := H
              have A89 := Aside0.mk A890
              clear A890
              by_cases c90 : t378 = true
              ·subst c90
               have H1 : (laws_FnExactChainsOf.j2 kj50 t365 t364 (t377 != t336)) = some r := by rw [if_pos rfl] at H;exact H
               clear H
               have H := H1
               clear H1
               have H' := Aside0.mk H
               clear H
               obtain ⟨Ao91, co91, eo91⟩ := Kd.S_slice HO376.out
               subst eo91
               obtain ⟨Ao92, co92, eo92⟩ := Kd.N_slice HO_6.out
               subst eo92
               go_wp2_with (first | ((with_reducible refine gate_callee (f := 24) rfl ?_);refine goesL_ (some 102) rfl rfl Tryd.func24 (by kernel_rfl) rfl #[.slice Ao91 t374.length co91, .slice Ao92 t333.length co92] rfl mM ?_;(with_reducible refine (laws_eqIntSS.calls kj50 _ _ t374 _ _ t333 true _ ?side1 ?side2 ?side3 ?side4 A89.out).mono ?_);(case side1 => exact cP (Kd.S_reads' HO376.out).2.2);(case side2 => exact (Kd.S_reads' HO376.out).2.1);(case side3 => exact cP (Kd.N_reads' HO_6.out).2.2);(case side4 => exact (Kd.N_reads' HO_6.out).2.1);rintro e w' ⟨rfl, ⟨nd, rfl⟩⟩;refine ⟨_, rfl, ?_⟩))
               go_meet
               case rel => exact ⟨_, ((t377 != t336)), (by first | rfl | (simp;done) | (simp [*];done)), H', ⟨by have := HJ15.out;have := HJ50.out;first | omega | exact Nat.le_refl _⟩, ⟨by (try simp only [hl342001_50]);(with_reducible repeat (first | apply Kd.R_alloc | apply Kd.S_alloc | apply Kd.N_alloc | apply Kd.R_drewN | apply Kd.S_drewN | apply Kd.N_drewN | apply Kd.R_drew | apply Kd.S_drew | apply Kd.N_drew));exact Kd.S_mono HO_10.out (fun _ hk => by first | exact hk | exact hk.2 | exact hk.1 | exact hk.2.1 | exact ⟨hk.1, hk.2.1⟩ | trivial)⟩, ⟨by (try simp only [hl342001_50]);(with_reducible repeat (first | apply Kd.R_alloc | apply Kd.S_alloc | apply Kd.N_alloc | apply Kd.R_drewN | apply Kd.S_drewN | apply Kd.N_drewN | apply Kd.R_drew | apply Kd.S_drew | apply Kd.N_drew));exact Kd.R_mono HO_342001.out (fun _ hk => trivial)⟩, ⟨by (try simp only [hl342001_50]);exact kP BK324.out⟩, ⟨by (try simp only [hl342001_50]);exact kP BK341.out⟩, ⟨by exact bB⟩⟩
              ·replace c90 := Bool.eq_false_iff.mpr c90
               subst c90
               have H1 : (laws_FnExactChainsOf.j2 kj50 t365 t364 true) = some r := by rw [if_neg (show ¬ (false = true) by decide)] at H;exact H
               clear H
               have H := H1
               clear H1
               have H' := Aside0.mk H
               clear H
               obtain ⟨Ao93, co93, eo93⟩ := Kd.S_slice HO376.out
               subst eo93
               obtain ⟨Ao94, co94, eo94⟩ := Kd.N_slice HO_6.out
               subst eo94
               go_wp2_with (first | ((with_reducible refine gate_callee (f := 24) rfl ?_);refine goesL_ (some 102) rfl rfl Tryd.func24 (by kernel_rfl) rfl #[.slice Ao93 t374.length co93, .slice Ao94 t333.length co94] rfl mM ?_;(with_reducible refine (laws_eqIntSS.calls kj50 _ _ t374 _ _ t333 false _ ?side1 ?side2 ?side3 ?side4 A89.out).mono ?_);(case side1 => exact cP (Kd.S_reads' HO376.out).2.2);(case side2 => exact (Kd.S_reads' HO376.out).2.1);(case side3 => exact cP (Kd.N_reads' HO_6.out).2.2);(case side4 => exact (Kd.N_reads' HO_6.out).2.1);rintro e w' ⟨rfl, ⟨nd, rfl⟩⟩;refine ⟨_, rfl, ?_⟩))
               go_meet
               case rel => exact ⟨_, (true), (by first | rfl | (simp;done) | (simp [*];done)), H', ⟨by have := HJ15.out;have := HJ50.out;first | omega | exact Nat.le_refl _⟩, ⟨by (try simp only [hl342001_50]);(with_reducible repeat (first | apply Kd.R_alloc | apply Kd.S_alloc | apply Kd.N_alloc | apply Kd.R_drewN | apply Kd.S_drewN | apply Kd.N_drewN | apply Kd.R_drew | apply Kd.S_drew | apply Kd.N_drew));exact Kd.S_mono HO_10.out (fun _ hk => by first | exact hk | exact hk.2 | exact hk.1 | exact hk.2.1 | exact ⟨hk.1, hk.2.1⟩ | trivial)⟩, ⟨by (try simp only [hl342001_50]);(with_reducible repeat (first | apply Kd.R_alloc | apply Kd.S_alloc | apply Kd.N_alloc | apply Kd.R_drewN | apply Kd.S_drewN | apply Kd.N_drewN | apply Kd.R_drew | apply Kd.S_drew | apply Kd.N_drew));exact Kd.R_mono HO_342001.out (fun _ hk => trivial)⟩, ⟨by (try simp only [hl342001_50]);exact kP BK324.out⟩, ⟨by (try simp only [hl342001_50]);exact kP BK341.out⟩, ⟨by exact bB⟩⟩
             case rest =>
              clear HC79
              try clear c1
              try clear c2
              try clear p2
              try clear c3
              try clear c3b0
              try clear c3b1
              try clear c4
              try clear c5
              try clear c6
              try clear c6b0
              try clear c7
              try clear c8
              try clear c9
              try clear c11
              try clear c13
              try clear c15
              try clear c17
              try clear c19
              try clear c24
              try clear c27
              try clear c28
              try clear c29
              try clear c30
              try clear c31
              try clear c32
              try clear c33
              try clear c37
              try clear c42
              try clear c45
              try clear c48
              try clear c58
              try clear c62
              try clear c62b0
              try clear c64
              try clear c69
              try clear c72
              try clear c72b0
              try clear c75
              try clear c75b0
              try clear c75b1
              try clear c82
              try clear c90
              try clear hcz18_0
              try clear hcz18_1
              try clear hcz20_0
              try clear hcz20_1
              try clear hcz26_0
              try clear hcz26_1
              try clear hcz30_0
              try clear hcz30_1
              try clear hcz33_0
              try clear hcz33_1
              try clear hcz59_0
              try clear hcz59_1
              try clear hcz83_0
              try clear hcz83_1
              try clear hcz8_0
              try clear hcz8_1
              try clear hfz18_0
              try clear hfz18_1
              try clear hfz20_0
              try clear hfz20_1
              try clear hfz26_0
              try clear hfz26_1
              try clear hfz30_0
              try clear hfz30_1
              try clear hfz33_0
              try clear hfz33_1
              try clear hfz59_0
              try clear hfz59_1
              try clear hfz83_0
              try clear hfz83_1
              try clear hfz8_0
              try clear hfz8_1
              try clear p2
              obtain ⟨kq, x108_78, rfl, HA, HJ78, HO_10, HO_342001, BK324, BK341, HB⟩ := hcut
              have hl10_78 := (Kd.S_reads' HO_10.out).1
              rw [hl10_78] at HO_10
              (try simp only [hl10_78])
              (try simp only [hl10_78] at BK324)
              (try simp only [hl10_78] at BK341)
              (try simp only [hl10_78] at HO_342001)
              cases kq with
              | zero => exact absurd HA.out (by simp [laws_FnExactChainsOf.j2])
              | succ kj78 =>
               have H := HA.out
               clear HA
               simp only [laws_FnExactChainsOf.j2] at H
               by_cases c95 : x108_78 = true
               ·subst c95
                have H1 : (some false) = some r := by rw [if_pos rfl] at H;exact H
                clear H
                have H := H1
                clear H1
                obtain rfl := Option.some.inj H
                go_wp2
                go_ret
                exact ⟨by first | rfl | (simp [errW_none, errW_some] <;> rfl) | (simp [*, errW_none, errW_some] <;> rfl), by exact bB⟩
               ·replace c95 := Bool.eq_false_iff.mpr c95
                subst c95
                have H1 : ((laws_heldIntSS.f kj78 t365 1).bind fun t379 => (if t379 < 0 then (some false) else (if t379 = t364 then (some true) else (some false)))) = some r := by rw [if_neg (show ¬ (false = true) by decide)] at H;exact H
                clear H
                have H := H1
                clear H1
                replace H := Option.bind_eq_some_iff.mp H
                obtain ⟨t379, A960, H⟩ := H
                replace H : (if t379 < 0 then (some false) else (if t379 = t364 then (some true) else (some false))) = some r := H
                have A96 := Aside0.mk A960
                clear A960
                by_cases c97 : t379 < 0
                ·rw [if_pos c97] at H
                 have c97b0 : decide (t379 < 0) = true := decide_eq_true c97
                 clear c97
                 obtain rfl := Option.some.inj H
                 go_wp2_with (first | ((with_reducible refine gate_callee (f := 33) rfl ?_);refine goesL_ (some 111) rfl rfl Tryd.func33 (by kernel_rfl) rfl #[.slice Ao80 t365.length co80, .int .i64 1] rfl mM ?_;(with_reducible refine (laws_heldIntSS.calls kj78 _ _ t365 1 t379 _ ?side1 ?side2 A96.out).mono ?_);(case side1 => exact cP (Kd.S_reads' HO_10.out).2.2);(case side2 => exact (Kd.S_reads' HO_10.out).2.1);rintro e w' ⟨rfl, ⟨nd, rfl⟩⟩;refine ⟨_, rfl, ?_⟩))
                 go_ret
                 exact ⟨by first | rfl | (simp [errW_none, errW_some] <;> rfl) | (simp [*, errW_none, errW_some] <;> rfl), by exact bB⟩
                ·rw [if_neg c97] at H
                 have c97b0 : decide (t379 < 0) = false := decide_eq_false c97
                 clear c97
                 by_cases c98 : t379 = t364
                 ·rw [if_pos c98] at H
                  have c98b0 : (t379 == t364) = true := beq_iff_eq.mpr c98
                  have c98b1 : (t379 != t364) = false := bne_eq_false_iff_eq.mpr c98
                  clear c98
                  obtain rfl := Option.some.inj H
                  go_wp2_with (first | ((with_reducible refine gate_callee (f := 33) rfl ?_);refine goesL_ (some 111) rfl rfl Tryd.func33 (by kernel_rfl) rfl #[.slice Ao80 t365.length co80, .int .i64 1] rfl mM ?_;(with_reducible refine (laws_heldIntSS.calls kj78 _ _ t365 1 t379 _ ?side1 ?side2 A96.out).mono ?_);(case side1 => exact cP (Kd.S_reads' HO_10.out).2.2);(case side2 => exact (Kd.S_reads' HO_10.out).2.1);rintro e w' ⟨rfl, ⟨nd, rfl⟩⟩;refine ⟨_, rfl, ?_⟩))
                  go_ret
                  exact ⟨by first | rfl | (simp [errW_none, errW_some] <;> rfl) | (simp [*, errW_none, errW_some] <;> rfl), by exact bB⟩
                 ·rw [if_neg c98] at H
                  have c98b0 : (t379 == t364) = false := beq_eq_false_iff_ne.mpr c98
                  have c98b1 : (t379 != t364) = true := bne_iff_ne.mpr c98
                  obtain rfl := Option.some.inj H
                  go_wp2_with (first | ((with_reducible refine gate_callee (f := 33) rfl ?_);refine goesL_ (some 111) rfl rfl Tryd.func33 (by kernel_rfl) rfl #[.slice Ao80 t365.length co80, .int .i64 1] rfl mM ?_;(with_reducible refine (laws_heldIntSS.calls kj78 _ _ t365 1 t379 _ ?side1 ?side2 A96.out).mono ?_);(case side1 => exact cP (Kd.S_reads' HO_10.out).2.2);(case side2 => exact (Kd.S_reads' HO_10.out).2.1);rintro e w' ⟨rfl, ⟨nd, rfl⟩⟩;refine ⟨_, rfl, ?_⟩))
                  go_ret
                  exact ⟨by first | rfl | (simp [errW_none, errW_some] <;> rfl) | (simp [*, errW_none, errW_some] <;> rfl), by exact bB⟩
            ·rw [if_neg c75] at H
             have c75b0 : (t366 == t364) = false := beq_eq_false_iff_ne.mpr c75
             have c75b1 : (t366 != t364) = true := bne_iff_ne.mpr c75
             obtain rfl := Option.some.inj H
             obtain ⟨Ao99, co99, eo99⟩ := Kd.S_slice HO_10.out
             subst eo99
             go_wp2_with (first | ((with_reducible refine gate_callee (f := 32) rfl ?_);refine goesL_ (some 83) rfl rfl Tryd.func32 (by kernel_rfl) rfl #[.slice Ao99 t345.length co99, .int .i64 1] rfl mM ?_;(with_reducible refine (laws_markIntSS.calls kj50 ?P9a2 (.slice Ao99 t345.length co99) t345 1 t364 t365 w _ ?side1 ?side2 A70.out).mono ?_);(case side1 => exact bB);(case side2 => exact mine9 HO_10.out);rintro e w100 ⟨rfl, hy0, hb, hkp⟩;refine ⟨_, rfl, ?_⟩;have n0_ := Aside0.mk (Kd.N_mono (ok' := fun k_ => ¬ P9_ k_) (Kd.N_keptB HO_6.out hkp (fun k_ hk_ hs_ => hk_ hs_.1)) (fun k_ hk_ => hk_.1));have n1_ := Aside0.mk (Kd.S_mono (ok' := fun k_ => True) hy0 (fun _ _ => trivial));have n2_ := Aside0.mk (Kd.R_mono (ok' := fun k_ => True) (Kd.R_keptB (mine9_R HO_342001.out (by decide)) hkp (fun k_ hk_ hs_ => hk_ hs_)) (fun k_ hk_ => trivial));have n3_ := Aside0.mk (blk_kept (by exact kP BK324.out) hkp (fun hs_ => mine9_block hs_ BK324.out (by decide)));have n4_ := Aside0.mk (blk_kept (by exact kP BK341.out) hkp (fun hs_ => mine9_block hs_ BK341.out (by decide)));have n5_ := Aside0.mk (hb);clear HO_6;clear HO_10;clear HO_342001;clear BK324;clear BK341;clear HB;have HO_6 := n0_;have HO_10 := n1_;have HO_342001 := n2_;have BK324 := n3_;have BK341 := n4_;have HB := n5_;clear n0_ n1_ n2_ n3_ n4_ n5_;(try clear hb);(try clear hkp);(try clear hy0)) | ((with_reducible refine gate_callee (f := 33) rfl ?_);refine goesL_ (some 86) rfl rfl Tryd.func33 (by kernel_rfl) rfl #[.slice Ao99 t365.length co99, .int .i64 1] rfl (by (try simp only [List.map_toArray, List.map_cons, List.map_nil]);first | done | (rw [show t365.length = t345.length from (Kd.S_reads' HO_10.out).1.symm] <;> rfl) | rfl | (simp only [List.length_drop, List.length_take];rfl)) ?_;(with_reducible refine (laws_heldIntSS.calls kj50 _ _ t365 1 t366 _ ?side1 ?side2 A71.out).mono ?_);(case side1 => exact cP (Kd.S_reads' HO_10.out).2.2);(case side2 => rw [show t365.length = t345.length from (Kd.S_reads' HO_10.out).1.symm];exact (Kd.S_reads' HO_10.out).2.1);rintro e w' ⟨rfl, ⟨nd, rfl⟩⟩;refine ⟨_, rfl, ?_⟩))
             go_ret
             exact ⟨by first | rfl | (simp [errW_none, errW_some] <;> rfl) | (simp [*, errW_none, errW_some] <;> rfl), by exact bB⟩
       ·replace c48 := Bool.eq_false_iff.mpr c48
        subst c48
        have H1 : (some false) = some r := by rw [if_neg (show ¬ (false = true) by decide)] at H;exact H
        clear H
        have H := H1
        clear H1
        obtain rfl := Option.some.inj H
        try go_wp2
        have n0_ := Aside0.mk (Kd.N_drew HO_6.out)
        have n1_ := Aside0.mk (Kd.R_drew HO_9.out)
        have n2_ := Aside0.mk (Kd.S_drew HO_10.out)
        have n3_ := Aside0.mk (Kd.R_drew HO_342001.out)
        have n4_ := Aside0.mk (blk_drew BK324.out)
        have n5_ := Aside0.mk (blk_drew BK341.out)
        have n6_ := Aside0.mk (below_drew1 HB.out)
        clear HO_6
        clear HO_9
        clear HO_10
        clear HO_342001
        clear BK324
        clear BK341
        clear HB
        have HO_6 := n0_
        have HO_9 := n1_
        have HO_10 := n2_
        have HO_342001 := n3_
        have BK324 := n4_
        have BK341 := n5_
        have HB := n6_
        clear n0_ n1_ n2_ n3_ n4_ n5_ n6_
        refine start_ (n := 5) (S := fun w' => w'.cell? ⟨gb341, 0, none⟩ = some (.int .i64 t337) ∧ w'.cell? ⟨gb341, 1, none⟩ = some (.slice Ao31 t338.length co31) ∧ w'.cell? ⟨gb324, 0, none⟩ = some (.int .i64 a0_0) ∧ w'.cell? ⟨gb324, 1, none⟩ = some (.slice A0_1 l0_1.length c0_1)) (ds := []) #[false,false,false,false,false] (by kernel_rfl) rfl rfl ⟨(blk_cell BK341.out 0).trans rfl, (blk_cell BK341.out 1).trans rfl, (blk_cell BK324.out 0).trans rfl, (blk_cell BK324.out 1).trans rfl⟩ (fun hHeld => ?_)
        generalize wc.drew = w101 at HO_6 HO_9 HO_10 HO_342001 BK324 BK341 HB hHeld ⊢
        refine take_ (i := 0) (N := some 52) (v := ?_) (a' := ?_) #[true,false,false,false,false] rfl rfl (by kernel_rfl) (fun _ _ _ h => h) (Or.inl ⟨by rfl, ?_⟩) hHeld ?_ ?_
        rotate_left
        ·rintro w' ⟨s0, s1, s2, s3⟩
         go_simp
         with_reducible rfl
        rotate_left
        ·simp only [Act.put, List.setIfInBounds_toArray, List.set_cons_zero, List.set_cons_succ, i64_w, i32_w]
         rfl
        refine take_ (i := 1) (N := some 53) (v := ?_) (a' := ?_) #[true,true,false,false,false] rfl rfl (by kernel_rfl) (fun _ _ _ h => h) (Or.inl ⟨by rfl, ?_⟩) hHeld ?_ ?_
        rotate_left
        ·rintro w' ⟨s0, s1, s2, s3⟩
         go_simp
         with_reducible rfl
        rotate_left
        ·simp only [Act.put, List.setIfInBounds_toArray, List.set_cons_zero, List.set_cons_succ, i64_w, i32_w]
         rfl
        refine one_ (i := 2) (N := some 54) #[true,true,true,false,false] rfl rfl (by kernel_rfl) (by decide) (fun K hK => ?_)
        refine goes_ Tryd.func13 (by kernel_rfl) rfl #[.agg #[.int .i64 a0_0, .slice A0_1 l0_1.length c0_1]] (by rfl) rfl rfl mM ?_
        with_reducible refine (laws_toGraph.calls kj15 a0_0 _ _ l0_1 t350 t351 _ ?side1 ?side2 A43.out).mono ?_
        (case side1 => exact cP (Kd.C_below HR0_1.out HB.out))
        (case side2 => exact HC0_1.out)
        rintro e w102 ⟨v352, rfl, ho0, hb⟩
        refine ⟨_, rfl, ?_⟩
        have n0_ := Aside0.mk (Kd.N_below (by (with_reducible repeat (first | apply Kd.R_alloc | apply Kd.S_alloc | apply Kd.N_alloc | apply Kd.R_drewN | apply Kd.S_drewN | apply Kd.N_drewN | apply Kd.R_drew | apply Kd.S_drew | apply Kd.N_drew));exact HO_6.out) hb)
        have n1_ := Aside0.mk (Kd.R_below (by (with_reducible repeat (first | apply Kd.R_alloc | apply Kd.S_alloc | apply Kd.N_alloc | apply Kd.R_drewN | apply Kd.S_drewN | apply Kd.N_drewN | apply Kd.R_drew | apply Kd.S_drew | apply Kd.N_drew));exact HO_9.out) hb)
        have n2_ := Aside0.mk (Kd.S_below (by (with_reducible repeat (first | apply Kd.R_alloc | apply Kd.S_alloc | apply Kd.N_alloc | apply Kd.R_drewN | apply Kd.S_drewN | apply Kd.N_drewN | apply Kd.R_drew | apply Kd.S_drew | apply Kd.N_drew));exact HO_10.out) hb)
        have n3_ := Aside0.mk (Kd.R_elder' (by (with_reducible repeat (first | apply Kd.R_alloc | apply Kd.S_alloc | apply Kd.N_alloc | apply Kd.R_drewN | apply Kd.S_drewN | apply Kd.N_drewN | apply Kd.R_drew | apply Kd.S_drew | apply Kd.N_drew));exact HO_342001.out) (Kd.R_base ho0) hb)
        have n4_ := Aside0.mk (Kd.R_lower (Kd.R_new' ho0 (Kd.R_lt (by (with_reducible repeat (first | apply Kd.R_alloc | apply Kd.S_alloc | apply Kd.N_alloc | apply Kd.R_drewN | apply Kd.S_drewN | apply Kd.N_drewN | apply Kd.R_drew | apply Kd.S_drew | apply Kd.N_drew));exact HO_342001.out))) (below_size (by exact bB)))
        have n5_ := Aside0.mk (blk_below (g := gb324) (o := .cells #[.int .i64 a0_0, .slice A0_1 l0_1.length c0_1] 24 (0, 0)) (by exact kP BK324.out) hb)
        have n6_ := Aside0.mk (blk_below (g := gb341) (o := .cells #[.int .i64 t337, .slice Ao31 t338.length co31] 28 (0, 0)) (by exact kP BK341.out) hb)
        have n7_ := Aside0.mk (below_step (by exact bB) hb)
        clear HO_6
        clear HO_9
        clear HO_10
        clear HO_342001
        clear BK324
        clear BK341
        clear HB
        have HO_6 := n0_
        have HO_9 := n1_
        have HO_10 := n2_
        have HO_342001 := n3_
        have HO353 := n4_
        have BK324 := n5_
        have BK341 := n6_
        have HB := n7_
        clear n0_ n1_ n2_ n3_ n4_ n5_ n6_ n7_
        (try clear hb)
        (try clear hb2)
        (try clear hk)
        (try clear hi)
        (try clear ho0)
        obtain ⟨Ao103, co103, eo103⟩ := Kd.R_slice HO353.out
        (first | subst eo103 | (injection eo103 with f1_ f2_ f3_;have f4_ := f1_.symm;have f5_ := f3_.symm;clear f1_ f2_ f3_;subst f4_;subst f5_))
        refine hK.out _ _ ⟨(blk_cell BK341.out 0).trans rfl, (blk_cell BK341.out 1).trans rfl, (blk_cell BK324.out 0).trans rfl, (blk_cell BK324.out 1).trans rfl⟩ (fun hHeld => ?_)
        clear hK K
        refine norm_ (a' := ?_) ?_ ?_
        rotate_left
        ·show Act.put _ (some 54) _ = _
         simp only [Act.put, List.setIfInBounds_toArray, List.set_cons_zero, List.set_cons_succ, i64_w, i32_w]
         rfl
        refine one_ (i := 3) (N := some 55) #[true,true,true,true,false] rfl rfl (by kernel_rfl) (by decide) (fun K hK => ?_)
        refine goes_ Tryd.func15 (by kernel_rfl) rfl #[.agg #[.int .i64 t337, .slice Ao31 t338.length co31], .agg #[.int .i64 t350, .slice Ao103 t351.length co103]] (by rfl) rfl rfl mM ?_
        with_reducible refine (laws_eqGraph.calls kj15 t337 _ _ t338 t350 _ _ t351 true _ ?side1 ?side2 ?side3 ?side4 A44.out).mono ?_
        (case side1 => exact cP (Kd.R_reads' HO_342001.out).2.2)
        (case side2 => exact (Kd.R_reads' HO_342001.out).2.1)
        (case side3 => exact cP (Kd.R_reads' HO353.out).2.2)
        (case side4 => exact (Kd.R_reads' HO353.out).2.1)
        rintro e w104 ⟨rfl, hb⟩
        refine ⟨_, rfl, ?_⟩
        have n0_ := Aside0.mk (Kd.N_below (by (with_reducible repeat (first | apply Kd.R_alloc | apply Kd.S_alloc | apply Kd.N_alloc | apply Kd.R_drewN | apply Kd.S_drewN | apply Kd.N_drewN | apply Kd.R_drew | apply Kd.S_drew | apply Kd.N_drew));exact HO_6.out) hb)
        have n1_ := Aside0.mk (Kd.R_below (by (with_reducible repeat (first | apply Kd.R_alloc | apply Kd.S_alloc | apply Kd.N_alloc | apply Kd.R_drewN | apply Kd.S_drewN | apply Kd.N_drewN | apply Kd.R_drew | apply Kd.S_drew | apply Kd.N_drew));exact HO_9.out) hb)
        have n2_ := Aside0.mk (Kd.S_below (by (with_reducible repeat (first | apply Kd.R_alloc | apply Kd.S_alloc | apply Kd.N_alloc | apply Kd.R_drewN | apply Kd.S_drewN | apply Kd.N_drewN | apply Kd.R_drew | apply Kd.S_drew | apply Kd.N_drew));exact HO_10.out) hb)
        have n3_ := Aside0.mk (Kd.R_below (by (with_reducible repeat (first | apply Kd.R_alloc | apply Kd.S_alloc | apply Kd.N_alloc | apply Kd.R_drewN | apply Kd.S_drewN | apply Kd.N_drewN | apply Kd.R_drew | apply Kd.S_drew | apply Kd.N_drew));exact HO_342001.out) hb)
        have n4_ := Aside0.mk (Kd.R_below (by (with_reducible repeat (first | apply Kd.R_alloc | apply Kd.S_alloc | apply Kd.N_alloc | apply Kd.R_drewN | apply Kd.S_drewN | apply Kd.N_drewN | apply Kd.R_drew | apply Kd.S_drew | apply Kd.N_drew));exact HO353.out) hb)
        have n5_ := Aside0.mk (blk_below (g := gb324) (o := .cells #[.int .i64 a0_0, .slice A0_1 l0_1.length c0_1] 24 (0, 0)) (by exact kP BK324.out) hb)
        have n6_ := Aside0.mk (blk_below (g := gb341) (o := .cells #[.int .i64 t337, .slice Ao31 t338.length co31] 28 (0, 0)) (by exact kP BK341.out) hb)
        have n7_ := Aside0.mk (below_step (by exact bB) hb)
        clear HO_6
        clear HO_9
        clear HO_10
        clear HO_342001
        clear HO353
        clear BK324
        clear BK341
        clear HB
        have HO_6 := n0_
        have HO_9 := n1_
        have HO_10 := n2_
        have HO_342001 := n3_
        have HO353 := n4_
        have BK324 := n5_
        have BK341 := n6_
        have HB := n7_
        clear n0_ n1_ n2_ n3_ n4_ n5_ n6_ n7_
        (try clear hb)
        (try clear hb2)
        (try clear hk)
        (try clear hi)
        refine hK.out _ _ ⟨(blk_cell BK341.out 0).trans rfl, (blk_cell BK341.out 1).trans rfl, (blk_cell BK324.out 0).trans rfl, (blk_cell BK324.out 1).trans rfl⟩ (fun hHeld => ?_)
        clear hK K
        refine norm_ (a' := ?_) ?_ ?_
        rotate_left
        ·show Act.put _ (some 55) _ = _
         simp only [Act.put, List.setIfInBounds_toArray, List.set_cons_zero, List.set_cons_succ, i64_w, i32_w]
         rfl
        refine pure_ (i := 4) (N := some 56) (v := ?_) (a' := ?_) #[true,true,true,true,true] rfl rfl (by kernel_rfl) (fun _ _ _ h => h) (Or.inl ⟨by rfl, ?_⟩) ?_ ?_
        rotate_left
        ·intro w'
         go_simp
         with_reducible rfl
        rotate_left
        ·simp only [Act.put, List.setIfInBounds_toArray, List.set_cons_zero, List.set_cons_succ, i64_w, i32_w]
         rfl
        refine done_ (by kernel_rfl) ?_
        try go_wp2_with (first | ((with_reducible refine gate_callee (f := 17) rfl ?_);refine goesL_ (some 59) rfl rfl Tryd.func17 (by kernel_rfl) rfl #[.slice A1 l1.length c1] rfl mM ?_;(with_reducible refine (laws_toIntS.calls kj15 _ _ l1 t355 _ ?side1 ?side2 A46.out).mono ?_);(case side1 => exact cP (Kd.C_below HR1.out HB.out));(case side2 => exact HC1.out);rintro e w105 ⟨v356, rfl, ho0, hb⟩;refine ⟨_, rfl, ?_⟩;have n0_ := Aside0.mk (Kd.N_below (by (with_reducible repeat (first | apply Kd.R_alloc | apply Kd.S_alloc | apply Kd.N_alloc | apply Kd.R_drewN | apply Kd.S_drewN | apply Kd.N_drewN | apply Kd.R_drew | apply Kd.S_drew | apply Kd.N_drew));exact HO_6.out) hb);have n1_ := Aside0.mk (Kd.R_elder' (by (with_reducible repeat (first | apply Kd.R_alloc | apply Kd.S_alloc | apply Kd.N_alloc | apply Kd.R_drewN | apply Kd.S_drewN | apply Kd.N_drewN | apply Kd.R_drew | apply Kd.S_drew | apply Kd.N_drew));exact HO_9.out) (Kd.R_base ho0) hb);have n2_ := Aside0.mk (Kd.S_below (by (with_reducible repeat (first | apply Kd.R_alloc | apply Kd.S_alloc | apply Kd.N_alloc | apply Kd.R_drewN | apply Kd.S_drewN | apply Kd.N_drewN | apply Kd.R_drew | apply Kd.S_drew | apply Kd.N_drew));exact HO_10.out) hb);have n3_ := Aside0.mk (Kd.R_below (by (with_reducible repeat (first | apply Kd.R_alloc | apply Kd.S_alloc | apply Kd.N_alloc | apply Kd.R_drewN | apply Kd.S_drewN | apply Kd.N_drewN | apply Kd.R_drew | apply Kd.S_drew | apply Kd.N_drew));exact HO_342001.out) hb);have n4_ := Aside0.mk (Kd.R_below (by (with_reducible repeat (first | apply Kd.R_alloc | apply Kd.S_alloc | apply Kd.N_alloc | apply Kd.R_drewN | apply Kd.S_drewN | apply Kd.N_drewN | apply Kd.R_drew | apply Kd.S_drew | apply Kd.N_drew));exact HO353.out) hb);have n5_ := Aside0.mk (Kd.R_lower (Kd.R_new' ho0 (Kd.R_lt (by (with_reducible repeat (first | apply Kd.R_alloc | apply Kd.S_alloc | apply Kd.N_alloc | apply Kd.R_drewN | apply Kd.S_drewN | apply Kd.N_drewN | apply Kd.R_drew | apply Kd.S_drew | apply Kd.N_drew));exact HO_9.out))) (below_size (by exact bB)));have n6_ := Aside0.mk (blk_below (g := gb324) (o := .cells #[.int .i64 a0_0, .slice A0_1 l0_1.length c0_1] 24 (0, 0)) (by exact kP BK324.out) hb);have n7_ := Aside0.mk (blk_below (g := gb341) (o := .cells #[.int .i64 t337, .slice Ao31 t338.length co31] 28 (0, 0)) (by exact kP BK341.out) hb);have n8_ := Aside0.mk (below_step (by exact bB) hb);clear HO_6;clear HO_9;clear HO_10;clear HO_342001;clear HO353;clear BK324;clear BK341;clear HB;have HO_6 := n0_;have HO_9 := n1_;have HO_10 := n2_;have HO_342001 := n3_;have HO353 := n4_;have HO357 := n5_;have BK324 := n6_;have BK341 := n7_;have HB := n8_;clear n0_ n1_ n2_ n3_ n4_ n5_ n6_ n7_ n8_;(try clear hb);(try clear hb2);(try clear hk);(try clear hi);(try clear ho0);obtain ⟨Ao106, co106, eo106⟩ := Kd.R_slice HO357.out;subst eo106) | ((with_reducible refine gate_callee (f := 19) rfl ?_);refine goesL_ (some 60) rfl rfl Tryd.func19 (by kernel_rfl) rfl #[.slice Ao34 t342.length co34, .slice Ao106 t355.length co106] rfl mM ?_;(with_reducible refine (laws_eqIntS.calls kj15 _ _ t342 _ _ t355 false _ ?side1 ?side2 ?side3 ?side4 A47.out).mono ?_);(case side1 => exact cP (Kd.R_reads' HO_9.out).2.2);(case side2 => exact (Kd.R_reads' HO_9.out).2.1);(case side3 => exact cP (Kd.R_reads' HO357.out).2.2);(case side4 => exact (Kd.R_reads' HO357.out).2.1);rintro e w' ⟨rfl, ⟨nd, rfl⟩⟩;refine ⟨_, rfl, ?_⟩))
        go_ret
        exact ⟨by first | rfl | (simp [errW_none, errW_some] <;> rfl) | (simp [*, errW_none, errW_some] <;> rfl), by exact bB⟩
      ·replace c45 := Bool.eq_false_iff.mpr c45
       subst c45
       have H1 : (some false) = some r := by rw [if_neg (show ¬ (false = true) by decide)] at H;exact H
       clear H
       have H := H1
       clear H1
       obtain rfl := Option.some.inj H
       try go_wp2
       have n0_ := Aside0.mk (Kd.N_drew HO_6.out)
       have n1_ := Aside0.mk (Kd.R_drew HO_9.out)
       have n2_ := Aside0.mk (Kd.S_drew HO_10.out)
       have n3_ := Aside0.mk (Kd.R_drew HO_342001.out)
       have n4_ := Aside0.mk (blk_drew BK324.out)
       have n5_ := Aside0.mk (blk_drew BK341.out)
       have n6_ := Aside0.mk (below_drew1 HB.out)
       clear HO_6
       clear HO_9
       clear HO_10
       clear HO_342001
       clear BK324
       clear BK341
       clear HB
       have HO_6 := n0_
       have HO_9 := n1_
       have HO_10 := n2_
       have HO_342001 := n3_
       have BK324 := n4_
       have BK341 := n5_
       have HB := n6_
       clear n0_ n1_ n2_ n3_ n4_ n5_ n6_
       refine start_ (n := 5) (S := fun w' => w'.cell? ⟨gb341, 0, none⟩ = some (.int .i64 t337) ∧ w'.cell? ⟨gb341, 1, none⟩ = some (.slice Ao31 t338.length co31) ∧ w'.cell? ⟨gb324, 0, none⟩ = some (.int .i64 a0_0) ∧ w'.cell? ⟨gb324, 1, none⟩ = some (.slice A0_1 l0_1.length c0_1)) (ds := []) #[false,false,false,false,false] (by kernel_rfl) rfl rfl ⟨(blk_cell BK341.out 0).trans rfl, (blk_cell BK341.out 1).trans rfl, (blk_cell BK324.out 0).trans rfl, (blk_cell BK324.out 1).trans rfl⟩ (fun hHeld => ?_)
       generalize wc.drew = w107 at HO_6 HO_9 HO_10 HO_342001 BK324 BK341 HB hHeld ⊢
       refine take_ (i := 0) (N := some 52) (v := ?_) (a' := ?_) #[true,false,false,false,false] rfl rfl (by kernel_rfl) (fun _ _ _ h => h) (Or.inl ⟨by rfl, ?_⟩) hHeld ?_ ?_
       rotate_left
       ·rintro w' ⟨s0, s1, s2, s3⟩
        go_simp
        with_reducible rfl
       rotate_left
       ·simp only [Act.put, List.setIfInBounds_toArray, List.set_cons_zero, List.set_cons_succ, i64_w, i32_w]
        rfl
       refine take_ (i := 1) (N := some 53) (v := ?_) (a' := ?_) #[true,true,false,false,false] rfl rfl (by kernel_rfl) (fun _ _ _ h => h) (Or.inl ⟨by rfl, ?_⟩) hHeld ?_ ?_
       rotate_left
       ·rintro w' ⟨s0, s1, s2, s3⟩
        go_simp
        with_reducible rfl
       rotate_left
       ·simp only [Act.put, List.setIfInBounds_toArray, List.set_cons_zero, List.set_cons_succ, i64_w, i32_w]
        rfl
       refine one_ (i := 2) (N := some 54) #[true,true,true,false,false] rfl rfl (by kernel_rfl) (by decide) (fun K hK => ?_)
       refine goes_ Tryd.func13 (by kernel_rfl) rfl #[.agg #[.int .i64 a0_0, .slice A0_1 l0_1.length c0_1]] (by rfl) rfl rfl mM ?_
       with_reducible refine (laws_toGraph.calls kj15 a0_0 _ _ l0_1 t350 t351 _ ?side1 ?side2 A43.out).mono ?_
       (case side1 => exact cP (Kd.C_below HR0_1.out HB.out))
       (case side2 => exact HC0_1.out)
       rintro e w108 ⟨v352, rfl, ho0, hb⟩
       refine ⟨_, rfl, ?_⟩
       have n0_ := Aside0.mk (Kd.N_below (by (with_reducible repeat (first | apply Kd.R_alloc | apply Kd.S_alloc | apply Kd.N_alloc | apply Kd.R_drewN | apply Kd.S_drewN | apply Kd.N_drewN | apply Kd.R_drew | apply Kd.S_drew | apply Kd.N_drew));exact HO_6.out) hb)
       have n1_ := Aside0.mk (Kd.R_below (by (with_reducible repeat (first | apply Kd.R_alloc | apply Kd.S_alloc | apply Kd.N_alloc | apply Kd.R_drewN | apply Kd.S_drewN | apply Kd.N_drewN | apply Kd.R_drew | apply Kd.S_drew | apply Kd.N_drew));exact HO_9.out) hb)
       have n2_ := Aside0.mk (Kd.S_below (by (with_reducible repeat (first | apply Kd.R_alloc | apply Kd.S_alloc | apply Kd.N_alloc | apply Kd.R_drewN | apply Kd.S_drewN | apply Kd.N_drewN | apply Kd.R_drew | apply Kd.S_drew | apply Kd.N_drew));exact HO_10.out) hb)
       have n3_ := Aside0.mk (Kd.R_elder' (by (with_reducible repeat (first | apply Kd.R_alloc | apply Kd.S_alloc | apply Kd.N_alloc | apply Kd.R_drewN | apply Kd.S_drewN | apply Kd.N_drewN | apply Kd.R_drew | apply Kd.S_drew | apply Kd.N_drew));exact HO_342001.out) (Kd.R_base ho0) hb)
       have n4_ := Aside0.mk (Kd.R_lower (Kd.R_new' ho0 (Kd.R_lt (by (with_reducible repeat (first | apply Kd.R_alloc | apply Kd.S_alloc | apply Kd.N_alloc | apply Kd.R_drewN | apply Kd.S_drewN | apply Kd.N_drewN | apply Kd.R_drew | apply Kd.S_drew | apply Kd.N_drew));exact HO_342001.out))) (below_size (by exact bB)))
       have n5_ := Aside0.mk (blk_below (g := gb324) (o := .cells #[.int .i64 a0_0, .slice A0_1 l0_1.length c0_1] 24 (0, 0)) (by exact kP BK324.out) hb)
       have n6_ := Aside0.mk (blk_below (g := gb341) (o := .cells #[.int .i64 t337, .slice Ao31 t338.length co31] 28 (0, 0)) (by exact kP BK341.out) hb)
       have n7_ := Aside0.mk (below_step (by exact bB) hb)
       clear HO_6
       clear HO_9
       clear HO_10
       clear HO_342001
       clear BK324
       clear BK341
       clear HB
       have HO_6 := n0_
       have HO_9 := n1_
       have HO_10 := n2_
       have HO_342001 := n3_
       have HO353 := n4_
       have BK324 := n5_
       have BK341 := n6_
       have HB := n7_
       clear n0_ n1_ n2_ n3_ n4_ n5_ n6_ n7_
       (try clear hb)
       (try clear hb2)
       (try clear hk)
       (try clear hi)
       (try clear ho0)
       obtain ⟨Ao109, co109, eo109⟩ := Kd.R_slice HO353.out
       (first | subst eo109 | (injection eo109 with f1_ f2_ f3_;have f4_ := f1_.symm;have f5_ := f3_.symm;clear f1_ f2_ f3_;subst f4_;subst f5_))
       refine hK.out _ _ ⟨(blk_cell BK341.out 0).trans rfl, (blk_cell BK341.out 1).trans rfl, (blk_cell BK324.out 0).trans rfl, (blk_cell BK324.out 1).trans rfl⟩ (fun hHeld => ?_)
       clear hK K
       refine norm_ (a' := ?_) ?_ ?_
       rotate_left
       ·show Act.put _ (some 54) _ = _
        simp only [Act.put, List.setIfInBounds_toArray, List.set_cons_zero, List.set_cons_succ, i64_w, i32_w]
        rfl
       refine one_ (i := 3) (N := some 55) #[true,true,true,true,false] rfl rfl (by kernel_rfl) (by decide) (fun K hK => ?_)
       refine goes_ Tryd.func15 (by kernel_rfl) rfl #[.agg #[.int .i64 t337, .slice Ao31 t338.length co31], .agg #[.int .i64 t350, .slice Ao109 t351.length co109]] (by rfl) rfl rfl mM ?_
       with_reducible refine (laws_eqGraph.calls kj15 t337 _ _ t338 t350 _ _ t351 false _ ?side1 ?side2 ?side3 ?side4 A44.out).mono ?_
       (case side1 => exact cP (Kd.R_reads' HO_342001.out).2.2)
       (case side2 => exact (Kd.R_reads' HO_342001.out).2.1)
       (case side3 => exact cP (Kd.R_reads' HO353.out).2.2)
       (case side4 => exact (Kd.R_reads' HO353.out).2.1)
       rintro e w110 ⟨rfl, hb⟩
       refine ⟨_, rfl, ?_⟩
       have n0_ := Aside0.mk (Kd.N_below (by (with_reducible repeat (first | apply Kd.R_alloc | apply Kd.S_alloc | apply Kd.N_alloc | apply Kd.R_drewN | apply Kd.S_drewN | apply Kd.N_drewN | apply Kd.R_drew | apply Kd.S_drew | apply Kd.N_drew));exact HO_6.out) hb)
       have n1_ := Aside0.mk (Kd.R_below (by (with_reducible repeat (first | apply Kd.R_alloc | apply Kd.S_alloc | apply Kd.N_alloc | apply Kd.R_drewN | apply Kd.S_drewN | apply Kd.N_drewN | apply Kd.R_drew | apply Kd.S_drew | apply Kd.N_drew));exact HO_9.out) hb)
       have n2_ := Aside0.mk (Kd.S_below (by (with_reducible repeat (first | apply Kd.R_alloc | apply Kd.S_alloc | apply Kd.N_alloc | apply Kd.R_drewN | apply Kd.S_drewN | apply Kd.N_drewN | apply Kd.R_drew | apply Kd.S_drew | apply Kd.N_drew));exact HO_10.out) hb)
       have n3_ := Aside0.mk (Kd.R_below (by (with_reducible repeat (first | apply Kd.R_alloc | apply Kd.S_alloc | apply Kd.N_alloc | apply Kd.R_drewN | apply Kd.S_drewN | apply Kd.N_drewN | apply Kd.R_drew | apply Kd.S_drew | apply Kd.N_drew));exact HO_342001.out) hb)
       have n4_ := Aside0.mk (Kd.R_below (by (with_reducible repeat (first | apply Kd.R_alloc | apply Kd.S_alloc | apply Kd.N_alloc | apply Kd.R_drewN | apply Kd.S_drewN | apply Kd.N_drewN | apply Kd.R_drew | apply Kd.S_drew | apply Kd.N_drew));exact HO353.out) hb)
       have n5_ := Aside0.mk (blk_below (g := gb324) (o := .cells #[.int .i64 a0_0, .slice A0_1 l0_1.length c0_1] 24 (0, 0)) (by exact kP BK324.out) hb)
       have n6_ := Aside0.mk (blk_below (g := gb341) (o := .cells #[.int .i64 t337, .slice Ao31 t338.length co31] 28 (0, 0)) (by exact kP BK341.out) hb)
       have n7_ := Aside0.mk (below_step (by exact bB) hb)
       clear HO_6
       clear HO_9
       clear HO_10
       clear HO_342001
       clear HO353
       clear BK324
       clear BK341
       clear HB
       have HO_6 := n0_
       have HO_9 := n1_
       have HO_10 := n2_
       have HO_342001 := n3_
       have HO353 := n4_
       have BK324 := n5_
       have BK341 := n6_
       have HB := n7_
       clear n0_ n1_ n2_ n3_ n4_ n5_ n6_ n7_
       (try clear hb)
       (try clear hb2)
       (try clear hk)
       (try clear hi)
       refine hK.out _ _ ⟨(blk_cell BK341.out 0).trans rfl, (blk_cell BK341.out 1).trans rfl, (blk_cell BK324.out 0).trans rfl, (blk_cell BK324.out 1).trans rfl⟩ (fun hHeld => ?_)
       clear hK K
       refine norm_ (a' := ?_) ?_ ?_
       rotate_left
       ·show Act.put _ (some 55) _ = _
        simp only [Act.put, List.setIfInBounds_toArray, List.set_cons_zero, List.set_cons_succ, i64_w, i32_w]
        rfl
       refine pure_ (i := 4) (N := some 56) (v := ?_) (a' := ?_) #[true,true,true,true,true] rfl rfl (by kernel_rfl) (fun _ _ _ h => h) (Or.inl ⟨by rfl, ?_⟩) ?_ ?_
       rotate_left
       ·intro w'
        go_simp
        with_reducible rfl
       rotate_left
       ·simp only [Act.put, List.setIfInBounds_toArray, List.set_cons_zero, List.set_cons_succ, i64_w, i32_w]
        rfl
       refine done_ (by kernel_rfl) ?_
       try go_wp2
       go_ret
       exact ⟨by first | rfl | (simp [errW_none, errW_some] <;> rfl) | (simp [*, errW_none, errW_some] <;> rfl), by exact bB⟩


end Go.Proofs.YthbjajppdomhhaaDoor.QChainsOf
