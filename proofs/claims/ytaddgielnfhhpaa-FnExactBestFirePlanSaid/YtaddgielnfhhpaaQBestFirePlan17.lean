import Derived.Test.YtaddgielnfhhpaaQBestFirePlan0
import Derived.Test.YtaddgielnfhhpaaQBestFirePlan1
import Derived.Test.YtaddgielnfhhpaaQBestFirePlan2
import Derived.Test.YtaddgielnfhhpaaQBestFirePlan11
import Derived.Test.YtaddgielnfhhpaaQBestFirePlan16
namespace Go.Proofs.Ytaddgielnfhhpaa.QBestFirePlan
open Go.RowKit Go.Proofs.YtaddgielnfhhpaaW.PrintWords Go.Proofs.YtaddgielnfhhpaaW.PrintLast Go.Proofs.YtaddgielnfhhpaaW.PrintMore
attribute [local go_sem] max2_int min2_int max_two min_two max_three min_three max_four min_four   -- for this text's walks alone
set_option linter.unusedVariables false
set_option linter.unusedSimpArgs false
/-! ### laws_FnExactBestFirePlan: function 7 -/
/-- Blocks of a row of rows: beyond some place, and of its own types. -/
def Mine9 (P : Nat → Prop) (W : World) (base : Nat) (E : List Nat) (k : Nat) : Prop := P k ∧ base ≤ k ∧ k < W.heap.size ∧ ∃ q, q ∈ E ∧ ∃ cells, W.heap[k]? = some (.cells cells q (0, 0))
theorem mine9 {α : Type} {d : Kd α} {e base : Nat} {ok : Nat → Prop} {w : World} {v : Value} {xs : List α} (h : Kd.S d e w base ok v xs) : Kd.S d e w base (Mine9 ok w base (e :: d.E)) v xs := Kd.S_bound h
theorem mine9_block {P : Nat → Prop} {W : World} {base g t : Nat} {E : List Nat} {cells : Array Value} (h : Mine9 P W base E g) (hb : W.heap[g]? = some (.cells cells t (0, 0))) (ht : ¬ t ∈ E) : False := by
 obtain ⟨_, _, _, q, hq, c, hc⟩ := h
 rw [hc] at hb
 simp only [Option.some.injEq, Obj.cells.injEq] at hb
 exact ht (hb.2.1 ▸ hq)
theorem mine9_R {α : Type} {d : Kd α} {e b base : Nat} {ok P : Nat → Prop} {W : World} {E : List Nat} {v : Value} {xs : List α} (h : Kd.R d e W b ok v xs) (hE : ∀ q ∈ e :: d.E, ¬ q ∈ E) : Kd.R d e W b (fun k => ¬ Mine9 P W base E k) v xs :=
 Kd.R_mono (Kd.R_bound h) (fun k hk hM => by obtain ⟨_, _, _, q, hq, c, hc⟩ := hk;exact mine9_block hM hc (hE q hq))
theorem mine9_old {W W1 : World} (hb : Below W.heap.size W W1) : ∃ P9_ : Nat → Prop, ∀ k, P9_ k ↔ W.heap.size ≤ k := ⟨_, fun _ => Iff.rfl⟩
mutual
def laws_FnExactBestFirePlan.j0 : Nat → Int → Int → List (List Int) → Bool → List (List Int) → Bool → Bool → Int → List (S80) → Int → List (S80) → Option (Bool)
 | 0, _, _, _, _, _, _, _, _, _, _, _ => none
 | k + 1, x1, x2, x8, x9, x11, x12, x48, x306000, x306001, x320000, x320001 => if x48 = true then (some false) else ((laws_toGraph.f k x306000 x306001).bind fun bt325 => ((laws_eqGraph.f k x320000 x320001 bt325.1 bt325.2).bind fun t329 => (if t329 = true then ((laws_markGraph.f x320000 x320001 1).bind fun bt330 => (if bt330.1 < 0 then (laws_FnExactBestFirePlan.j1 k x1 x2 x8 x9 x11 true x306000 x306001) else ((laws_eqIntSS.f k x11 x8).bind fun t332 => (if t332 = true then (laws_FnExactBestFirePlan.j1 k x1 x2 x8 x9 x11 (x12 != x9) x306000 x306001) else (laws_FnExactBestFirePlan.j1 k x1 x2 x8 x9 x11 true x306000 x306001))))) else (some false))))
def laws_FnExactBestFirePlan.j1 : Nat → Int → Int → List (List Int) → Bool → List (List Int) → Bool → Int → List (S80) → Option (Bool)
 | 0, _, _, _, _, _, _, _, _ => none
 | k + 1, x1, x2, x8, x9, x11, x69, x306000, x306001 => if x69 = true then (some false) else ((laws_markIntSS.f k x11 1).bind fun bt333 => ((laws_heldIntSS.f k bt333.2 1).bind fun t335 => (if t335 < 0 then (some false) else (if t335 = bt333.1 then ((laws_toGraph.f k x306000 x306001).bind fun bt336 => ((impl_BestFirePlan.f k bt336.1 bt336.2 x1 x2).bind fun bt340 => ((laws_eqIntSS.f k bt340.1 x8).bind fun t344 => (if t344 = true then (laws_FnExactBestFirePlan.j2 k bt333.2 bt333.1 (bt340.2 != x9)) else (laws_FnExactBestFirePlan.j2 k bt333.2 bt333.1 true))))) else (some false)))))
def laws_FnExactBestFirePlan.j2 : Nat → List (List Int) → Int → Bool → Option (Bool)
 | 0, _, _, _ => none
 | k + 1, x11, x14, x97 => if x97 = true then (some false) else ((laws_heldIntSS.f k x11 1).bind fun t345 => (if t345 < 0 then (some false) else (if t345 = x14 then (some true) else (some false))))
end
def laws_FnExactBestFirePlan.f (k : Nat) (a0_0 : Int) (l0_1 : List (S80)) (a1 : Int) (a2 : Int) : Option (Bool) := (laws_szGraph.f a0_0 l0_1 1048576).bind fun t306 => (if t306 < 0 then (some true) else ((laws_toGraph.f k a0_0 l0_1).bind fun bt307 => ((spec_BestFirePlan.f k bt307.1 bt307.2 a1 a2).bind fun bt311 => ((laws_toGraph.f k a0_0 l0_1).bind fun bt315 => ((impl_BestFirePlan.f k bt315.1 bt315.2 a1 a2).bind fun bt320 => ((laws_eqIntSS.f k bt320.1 bt311.1).bind fun t324 => (if t324 = true then (laws_FnExactBestFirePlan.j0 k a1 a2 bt311.1 bt311.2 bt320.1 bt320.2 (bt320.2 != bt311.2) a0_0 l0_1 bt315.1 bt315.2) else (laws_FnExactBestFirePlan.j0 k a1 a2 bt311.1 bt311.2 bt320.1 bt320.2 true a0_0 l0_1 bt315.1 bt315.2))))))))
theorem laws_FnExactBestFirePlan.mono_l : ∀ k, (∀ y0 y1 y2 y3 y4 y5 y6 y7 y8 y9 y10, LeO (laws_FnExactBestFirePlan.j0 k y0 y1 y2 y3 y4 y5 y6 y7 y8 y9 y10) (laws_FnExactBestFirePlan.j0 (k + 1) y0 y1 y2 y3 y4 y5 y6 y7 y8 y9 y10)) ∧ (∀ y0 y1 y2 y3 y4 y5 y6 y7, LeO (laws_FnExactBestFirePlan.j1 k y0 y1 y2 y3 y4 y5 y6 y7) (laws_FnExactBestFirePlan.j1 (k + 1) y0 y1 y2 y3 y4 y5 y6 y7)) ∧ (∀ y0 y1 y2, LeO (laws_FnExactBestFirePlan.j2 k y0 y1 y2) (laws_FnExactBestFirePlan.j2 (k + 1) y0 y1 y2))
 | 0 => ⟨fun _ _ _ _ _ _ _ _ _ _ _ r h => by simp [laws_FnExactBestFirePlan.j0] at h, fun _ _ _ _ _ _ _ _ r h => by simp [laws_FnExactBestFirePlan.j1] at h, fun _ _ _ r h => by simp [laws_FnExactBestFirePlan.j2] at h⟩
 | k + 1 => by
  obtain ⟨ih0, ih1, ih2⟩ := laws_FnExactBestFirePlan.mono_l k
  refine ⟨?_, ?_, ?_⟩
  ·intro y0 y1 y2 y3 y4 y5 y6 y7 y8 y9 y10
   unfold laws_FnExactBestFirePlan.j0
   repeat' first
   | (with_reducible exact ih0 _ _ _ _ _ _ _ _ _ _ _)
   | (with_reducible exact ih1 _ _ _ _ _ _ _ _)
   | (with_reducible exact ih2 _ _ _)
   | (with_reducible exact impl_BestFirePlan.mono _ _ _ _ _)
   | (with_reducible exact laws_eqGraph.mono _ _ _ _ _)
   | (with_reducible exact laws_eqIntSS.mono _ _ _)
   | (with_reducible exact laws_heldIntSS.mono _ _ _)
   | (with_reducible exact laws_markIntSS.mono _ _ _)
   | (with_reducible exact laws_toGraph.mono _ _ _)
   | (with_reducible exact spec_BestFirePlan.mono _ _ _ _ _)
   | (with_reducible exact LeO.refl _)
   | (with_reducible exact LeO.none _)
   | (with_reducible refine LeO.ite ?_ ?_)
   | (with_reducible refine LeO.bind ?_ (fun _ => ?_))
   | exact ih0 _ _ _ _ _ _ _ _ _ _ _
   | exact ih1 _ _ _ _ _ _ _ _
   | exact ih2 _ _ _
   | exact impl_BestFirePlan.mono _ _ _ _ _
   | exact laws_eqGraph.mono _ _ _ _ _
   | exact laws_eqIntSS.mono _ _ _
   | exact laws_heldIntSS.mono _ _ _
   | exact laws_markIntSS.mono _ _ _
   | exact laws_toGraph.mono _ _ _
   | exact spec_BestFirePlan.mono _ _ _ _ _
   | exact LeO.none _
   | refine LeO.ite ?_ ?_
   | refine LeO.bind ?_ (fun _ => ?_)
  ·intro y0 y1 y2 y3 y4 y5 y6 y7
   unfold laws_FnExactBestFirePlan.j1
   repeat' first
   | (with_reducible exact ih0 _ _ _ _ _ _ _ _ _ _ _)
   | (with_reducible exact ih1 _ _ _ _ _ _ _ _)
   | (with_reducible exact ih2 _ _ _)
   | (with_reducible exact impl_BestFirePlan.mono _ _ _ _ _)
   | (with_reducible exact laws_eqGraph.mono _ _ _ _ _)
   | (with_reducible exact laws_eqIntSS.mono _ _ _)
   | (with_reducible exact laws_heldIntSS.mono _ _ _)
   | (with_reducible exact laws_markIntSS.mono _ _ _)
   | (with_reducible exact laws_toGraph.mono _ _ _)
   | (with_reducible exact spec_BestFirePlan.mono _ _ _ _ _)
   | (with_reducible exact LeO.refl _)
   | (with_reducible exact LeO.none _)
   | (with_reducible refine LeO.ite ?_ ?_)
   | (with_reducible refine LeO.bind ?_ (fun _ => ?_))
   | exact ih0 _ _ _ _ _ _ _ _ _ _ _
   | exact ih1 _ _ _ _ _ _ _ _
   | exact ih2 _ _ _
   | exact impl_BestFirePlan.mono _ _ _ _ _
   | exact laws_eqGraph.mono _ _ _ _ _
   | exact laws_eqIntSS.mono _ _ _
   | exact laws_heldIntSS.mono _ _ _
   | exact laws_markIntSS.mono _ _ _
   | exact laws_toGraph.mono _ _ _
   | exact spec_BestFirePlan.mono _ _ _ _ _
   | exact LeO.none _
   | refine LeO.ite ?_ ?_
   | refine LeO.bind ?_ (fun _ => ?_)
  ·intro y0 y1 y2
   unfold laws_FnExactBestFirePlan.j2
   repeat' first
   | (with_reducible exact ih0 _ _ _ _ _ _ _ _ _ _ _)
   | (with_reducible exact ih1 _ _ _ _ _ _ _ _)
   | (with_reducible exact ih2 _ _ _)
   | (with_reducible exact impl_BestFirePlan.mono _ _ _ _ _)
   | (with_reducible exact laws_eqGraph.mono _ _ _ _ _)
   | (with_reducible exact laws_eqIntSS.mono _ _ _)
   | (with_reducible exact laws_heldIntSS.mono _ _ _)
   | (with_reducible exact laws_markIntSS.mono _ _ _)
   | (with_reducible exact laws_toGraph.mono _ _ _)
   | (with_reducible exact spec_BestFirePlan.mono _ _ _ _ _)
   | (with_reducible exact LeO.refl _)
   | (with_reducible exact LeO.none _)
   | (with_reducible refine LeO.ite ?_ ?_)
   | (with_reducible refine LeO.bind ?_ (fun _ => ?_))
   | exact ih0 _ _ _ _ _ _ _ _ _ _ _
   | exact ih1 _ _ _ _ _ _ _ _
   | exact ih2 _ _ _
   | exact impl_BestFirePlan.mono _ _ _ _ _
   | exact laws_eqGraph.mono _ _ _ _ _
   | exact laws_eqIntSS.mono _ _ _
   | exact laws_heldIntSS.mono _ _ _
   | exact laws_markIntSS.mono _ _ _
   | exact laws_toGraph.mono _ _ _
   | exact spec_BestFirePlan.mono _ _ _ _ _
   | exact LeO.none _
   | refine LeO.ite ?_ ?_
   | refine LeO.bind ?_ (fun _ => ?_)
theorem laws_FnExactBestFirePlan.mono : ∀ a0 a1 a2 a3 k, LeO (laws_FnExactBestFirePlan.f k a0 a1 a2 a3) (laws_FnExactBestFirePlan.f (k + 1) a0 a1 a2 a3) := by
 intro a0 a1 a2 a3 k
 obtain ⟨ih0, ih1, ih2⟩ := laws_FnExactBestFirePlan.mono_l k
 unfold laws_FnExactBestFirePlan.f
 repeat' first
   | (with_reducible exact ih0 _ _ _ _ _ _ _ _ _ _ _)
   | (with_reducible exact ih1 _ _ _ _ _ _ _ _)
   | (with_reducible exact ih2 _ _ _)
   | (with_reducible exact impl_BestFirePlan.mono _ _ _ _ _)
   | (with_reducible exact laws_eqGraph.mono _ _ _ _ _)
   | (with_reducible exact laws_eqIntSS.mono _ _ _)
   | (with_reducible exact laws_heldIntSS.mono _ _ _)
   | (with_reducible exact laws_markIntSS.mono _ _ _)
   | (with_reducible exact laws_toGraph.mono _ _ _)
   | (with_reducible exact spec_BestFirePlan.mono _ _ _ _ _)
   | (with_reducible exact LeO.refl _)
   | (with_reducible exact LeO.none _)
   | (with_reducible refine LeO.ite ?_ ?_)
   | (with_reducible refine LeO.bind ?_ (fun _ => ?_))
   | exact ih0 _ _ _ _ _ _ _ _ _ _ _
   | exact ih1 _ _ _ _ _ _ _ _
   | exact ih2 _ _ _
   | exact impl_BestFirePlan.mono _ _ _ _ _
   | exact laws_eqGraph.mono _ _ _ _ _
   | exact laws_eqIntSS.mono _ _ _
   | exact laws_heldIntSS.mono _ _ _
   | exact laws_markIntSS.mono _ _ _
   | exact laws_toGraph.mono _ _ _
   | exact spec_BestFirePlan.mono _ _ _ _ _
   | exact LeO.none _
   | refine LeO.ite ?_ ?_
   | refine LeO.bind ?_ (fun _ => ?_)
set_option maxHeartbeats 8000000 in
set_option maxRecDepth 100000 in
theorem laws_FnExactBestFirePlan.calls (k : Nat) (a0_0 : Int) (A0_1 : Option Addr) (c0_1 : Nat) (l0_1 : List (S80)) (a1 : Int) (a2 : Int) (r : Bool) (w : World) (hr0_1 : Kd.C k80 w A0_1 l0_1.length l0_1) (hc0_1 : l0_1.length ≤ c0_1) (h : laws_FnExactBestFirePlan.f k a0_0 l0_1 a1 a2 = some r) :
  Calls Try.prog 7 #[.agg #[.int .i64 a0_0, .slice A0_1 l0_1.length c0_1], .int .i64 a1, .int .i64 a2] w fun e w' => e = .returned (.bool r) ∧ Below w.heap.size w w' := by
 have hu24 := Try.underlying24
 have hu29 := Try.underlying29
 have HR0_1 := Aside0.mk hr0_1
 have HC0_1 := Aside0.mk hc0_1
 clear hr0_1 hc0_1
 have HB := Aside0.mk (Below.refl w.heap.size w)
 have H : ((laws_szGraph.f a0_0 l0_1 1048576).bind fun t306 => (if t306 < 0 then (some true) else ((laws_toGraph.f k a0_0 l0_1).bind fun bt307 => ((spec_BestFirePlan.f k bt307.1 bt307.2 a1 a2).bind fun bt311 => ((laws_toGraph.f k a0_0 l0_1).bind fun bt315 => ((impl_BestFirePlan.f k bt315.1 bt315.2 a1 a2).bind fun bt320 => ((laws_eqIntSS.f k bt320.1 bt311.1).bind fun t324 => (if t324 = true then (laws_FnExactBestFirePlan.j0 k a1 a2 bt311.1 bt311.2 bt320.1 bt320.2 (bt320.2 != bt311.2) a0_0 l0_1 bt315.1 bt315.2) else (laws_FnExactBestFirePlan.j0 k a1 a2 bt311.1 bt311.2 bt320.1 bt320.2 true a0_0 l0_1 bt315.1 bt315.2))))))))) = some r := h
 clear h
 replace H := Option.bind_eq_some_iff.mp H
 obtain ⟨t306, A40, H⟩ := H
 replace H : (if t306 < 0 then (some true) else ((laws_toGraph.f k a0_0 l0_1).bind fun bt307 => ((spec_BestFirePlan.f k bt307.1 bt307.2 a1 a2).bind fun bt311 => ((laws_toGraph.f k a0_0 l0_1).bind fun bt315 => ((impl_BestFirePlan.f k bt315.1 bt315.2 a1 a2).bind fun bt320 => ((laws_eqIntSS.f k bt320.1 bt311.1).bind fun t324 => (if t324 = true then (laws_FnExactBestFirePlan.j0 k a1 a2 bt311.1 bt311.2 bt320.1 bt320.2 (bt320.2 != bt311.2) a0_0 l0_1 bt315.1 bt315.2) else (laws_FnExactBestFirePlan.j0 k a1 a2 bt311.1 bt311.2 bt320.1 bt320.2 true a0_0 l0_1 bt315.1 bt315.2)))))))) = some r := H
 have A4 := Aside0.mk A40
 clear A40
 by_cases c5 : t306 < 0
 ·rw [if_pos c5] at H
  have c5b0 : decide (t306 < 0) = true := decide_eq_true c5
  clear c5
  obtain rfl := Option.some.inj H
  go_enter Try.func7, Try.ntmps7
  go_wp2_with (first | ((with_reducible refine gate_dst (N := 3) rfl ?_);refine box_event ?hg (N := 3) ?hd (cs := #[.int .i64 a0_0, .slice A0_1 l0_1.length c0_1]) (t := 24) ?hr ?_;(case hd => rfl);(case hg => rfl);(case hr => first | (go_simp;done) | (go_simp;rfl));intro gb305 hg w6 hbox hb;have n0_ := Aside0.mk (below_step (by exact bB) hb);have n1_ := Aside0.mk (hbox);have n2_ := Aside0.mk ((by rw [hg];exact (below_size (by exact bB)) : w.heap.size ≤ gb305));have n3_ := Aside0.mk ((by rw [hg];exact (below_size (by exact bB)) : w.heap.size ≤ gb305));clear HB;have HB := n0_;have BK305 := n1_;have GW305 := n2_;have GE305 := n3_;clear n0_ n1_ n2_ n3_;clear hb hbox hg;have hcz7_0 : w6.cell? ⟨gb305, 0, none⟩ = some (.int .i64 a0_0) := (blk_cell BK305.out 0).trans rfl;have hcz7_1 : w6.cell? ⟨gb305, 1, none⟩ = some (.slice A0_1 l0_1.length c0_1) := (blk_cell BK305.out 1).trans rfl;have hfz7_0 := blk_frozen BK305.out 0;have hfz7_1 := blk_frozen BK305.out 1) | ((with_reducible refine gate_callee (f := 9) rfl ?_);refine goesL_ (some 20) rfl rfl Try.func9 (by kernel_rfl) rfl #[.agg #[.int .i64 a0_0, .slice A0_1 l0_1.length c0_1], .int .i64 1048576] rfl mM ?_;(with_reducible refine (laws_szGraph.calls a0_0 _ _ l0_1 1048576 t306 _ ?side1 ?side2 A4.out).mono ?_);(case side1 => exact cP (Kd.C_below HR0_1.out HB.out));(case side2 => exact HC0_1.out);rintro e w8 ⟨rfl, hb⟩;refine ⟨_, rfl, ?_⟩;have n0_ := Aside0.mk (blk_below (g := gb305) (o := .cells #[.int .i64 a0_0, .slice A0_1 l0_1.length c0_1] 24 (0, 0)) (by exact kP BK305.out) hb);have n1_ := Aside0.mk (below_step (by exact bB) hb);clear BK305;clear HB;have BK305 := n0_;have HB := n1_;clear n0_ n1_;(try clear hb);(try clear hb2);(try clear hk);(try clear hi)))
  go_ret
  exact ⟨by first | rfl | (simp [errW_none, errW_some] <;> rfl) | (simp [*, errW_none, errW_some] <;> rfl), by exact bB⟩
 ·rw [if_neg c5] at H
  have c5b0 : decide (t306 < 0) = false := decide_eq_false c5
  clear c5
  replace H := Option.bind_eq_some_iff.mp H
  obtain ⟨⟨t307, t308⟩, A90, H⟩ := H
  replace H : ((spec_BestFirePlan.f k t307 t308 a1 a2).bind fun bt311 => ((laws_toGraph.f k a0_0 l0_1).bind fun bt315 => ((impl_BestFirePlan.f k bt315.1 bt315.2 a1 a2).bind fun bt320 => ((laws_eqIntSS.f k bt320.1 bt311.1).bind fun t324 => (if t324 = true then (laws_FnExactBestFirePlan.j0 k a1 a2 bt311.1 bt311.2 bt320.1 bt320.2 (bt320.2 != bt311.2) a0_0 l0_1 bt315.1 bt315.2) else (laws_FnExactBestFirePlan.j0 k a1 a2 bt311.1 bt311.2 bt320.1 bt320.2 true a0_0 l0_1 bt315.1 bt315.2)))))) = some r := H
  have A9 := Aside0.mk A90
  clear A90
  replace H := Option.bind_eq_some_iff.mp H
  obtain ⟨⟨t311, t314⟩, A100, H⟩ := H
  replace H : ((laws_toGraph.f k a0_0 l0_1).bind fun bt315 => ((impl_BestFirePlan.f k bt315.1 bt315.2 a1 a2).bind fun bt320 => ((laws_eqIntSS.f k bt320.1 t311).bind fun t324 => (if t324 = true then (laws_FnExactBestFirePlan.j0 k a1 a2 t311 t314 bt320.1 bt320.2 (bt320.2 != t314) a0_0 l0_1 bt315.1 bt315.2) else (laws_FnExactBestFirePlan.j0 k a1 a2 t311 t314 bt320.1 bt320.2 true a0_0 l0_1 bt315.1 bt315.2))))) = some r := H
  have A10 := Aside0.mk A100
  clear A100
  replace H := Option.bind_eq_some_iff.mp H
  obtain ⟨⟨t315, t316⟩, A110, H⟩ := H
  replace H : ((impl_BestFirePlan.f k t315 t316 a1 a2).bind fun bt320 => ((laws_eqIntSS.f k bt320.1 t311).bind fun t324 => (if t324 = true then (laws_FnExactBestFirePlan.j0 k a1 a2 t311 t314 bt320.1 bt320.2 (bt320.2 != t314) a0_0 l0_1 t315 t316) else (laws_FnExactBestFirePlan.j0 k a1 a2 t311 t314 bt320.1 bt320.2 true a0_0 l0_1 t315 t316)))) = some r := H
  have A11 := Aside0.mk A110
  clear A110
  replace H := Option.bind_eq_some_iff.mp H
  obtain ⟨⟨t320, t323⟩, A120, H⟩ := H
  replace H : ((laws_eqIntSS.f k t320 t311).bind fun t324 => (if t324 = true then (laws_FnExactBestFirePlan.j0 k a1 a2 t311 t314 t320 t323 (t323 != t314) a0_0 l0_1 t315 t316) else (laws_FnExactBestFirePlan.j0 k a1 a2 t311 t314 t320 t323 true a0_0 l0_1 t315 t316))) = some r := H
  have A12 := Aside0.mk A120
  clear A120
  have HC13 := Aside0.mk H
  clear H
  go_enter Try.func7, Try.ntmps7
  go_upto_region 8 with (first | ((with_reducible refine gate_dst (N := 3) rfl ?_);refine box_event ?hg (N := 3) ?hd (cs := #[.int .i64 a0_0, .slice A0_1 l0_1.length c0_1]) (t := 24) ?hr ?_;(case hd => rfl);(case hg => rfl);(case hr => first | (go_simp;done) | (go_simp;rfl));intro gb305 hg w14 hbox hb;have n0_ := Aside0.mk (below_step (by exact bB) hb);have n1_ := Aside0.mk (hbox);have n2_ := Aside0.mk ((by rw [hg];exact (below_size (by exact bB)) : w.heap.size ≤ gb305));have n3_ := Aside0.mk ((by rw [hg];exact (below_size (by exact bB)) : w.heap.size ≤ gb305));clear HB;have HB := n0_;have BK305 := n1_;have GW305 := n2_;have GE305 := n3_;clear n0_ n1_ n2_ n3_;clear hb hbox hg;have hcz15_0 : w14.cell? ⟨gb305, 0, none⟩ = some (.int .i64 a0_0) := (blk_cell BK305.out 0).trans rfl;have hcz15_1 : w14.cell? ⟨gb305, 1, none⟩ = some (.slice A0_1 l0_1.length c0_1) := (blk_cell BK305.out 1).trans rfl;have hfz15_0 := blk_frozen BK305.out 0;have hfz15_1 := blk_frozen BK305.out 1) | ((with_reducible refine gate_callee (f := 9) rfl ?_);refine goesL_ (some 20) rfl rfl Try.func9 (by kernel_rfl) rfl #[.agg #[.int .i64 a0_0, .slice A0_1 l0_1.length c0_1], .int .i64 1048576] rfl mM ?_;(with_reducible refine (laws_szGraph.calls a0_0 _ _ l0_1 1048576 t306 _ ?side1 ?side2 A4.out).mono ?_);(case side1 => exact cP (Kd.C_below HR0_1.out HB.out));(case side2 => exact HC0_1.out);rintro e w16 ⟨rfl, hb⟩;refine ⟨_, rfl, ?_⟩;have n0_ := Aside0.mk (blk_below (g := gb305) (o := .cells #[.int .i64 a0_0, .slice A0_1 l0_1.length c0_1] 24 (0, 0)) (by exact kP BK305.out) hb);have n1_ := Aside0.mk (below_step (by exact bB) hb);clear BK305;clear HB;have BK305 := n0_;have HB := n1_;clear n0_ n1_;(try clear hb);(try clear hb2);(try clear hk);(try clear hi);have hcz17_0 : w16.cell? ⟨gb305, 0, none⟩ = some (.int .i64 a0_0) := (blk_cell BK305.out 0).trans rfl;have hcz17_1 : w16.cell? ⟨gb305, 1, none⟩ = some (.slice A0_1 l0_1.length c0_1) := (blk_cell BK305.out 1).trans rfl;have hfz17_0 := blk_frozen BK305.out 0;have hfz17_1 := blk_frozen BK305.out 1) | ((with_reducible refine gate_callee (f := 11) rfl ?_);refine goesL_ (some 25) rfl rfl Try.func11 (by kernel_rfl) rfl #[.agg #[.int .i64 a0_0, .slice A0_1 l0_1.length c0_1]] rfl mM ?_;(with_reducible refine (laws_toGraph.calls k a0_0 _ _ l0_1 t307 t308 _ ?side1 ?side2 A9.out).mono ?_);(case side1 => exact cP (Kd.C_below HR0_1.out HB.out));(case side2 => exact HC0_1.out);rintro e w18 ⟨v309, rfl, ho0, hb⟩;refine ⟨_, rfl, ?_⟩;have n0_ := Aside0.mk (Kd.R_lower ho0 (below_size (by exact bB)));have n1_ := Aside0.mk (blk_below (g := gb305) (o := .cells #[.int .i64 a0_0, .slice A0_1 l0_1.length c0_1] 24 (0, 0)) (by exact kP BK305.out) hb);have n2_ := Aside0.mk (below_step (by exact bB) hb);clear BK305;clear HB;have HO310 := n0_;have BK305 := n1_;have HB := n2_;clear n0_ n1_ n2_;(try clear hb);(try clear hb2);(try clear hk);(try clear hi);(try clear ho0);obtain ⟨Ao19, co19, eo19⟩ := Kd.R_slice HO310.out;subst eo19) | ((with_reducible refine gate_callee (f := 28) rfl ?_);refine goesL_ (some 28) rfl rfl Try.func28 (by kernel_rfl) rfl #[.agg #[.int .i64 t307, .slice Ao19 t308.length co19], .int .i64 a1, .int .i64 a2] rfl mM ?_;(with_reducible refine (spec_BestFirePlan.calls k t307 _ _ t308 a1 a2 t311 t314 _ ?side1 ?side2 A10.out).mono ?_);(case side1 => exact cP (Kd.R_reads' HO310.out).2.2);(case side2 => exact (Kd.R_reads' HO310.out).2.1);rintro e w20 ⟨v312, rfl, ho0, hb⟩;refine ⟨_, rfl, ?_⟩;have n0_ := Aside0.mk (Kd.R_below (by (with_reducible repeat (first | apply Kd.R_alloc | apply Kd.S_alloc | apply Kd.N_alloc | apply Kd.R_drewN | apply Kd.S_drewN | apply Kd.N_drewN | apply Kd.R_drew | apply Kd.S_drew | apply Kd.N_drew));exact HO310.out) hb);have n1_ := Aside0.mk (Kd.N_lower ho0 (below_size (by exact bB)));have n2_ := Aside0.mk (blk_below (g := gb305) (o := .cells #[.int .i64 a0_0, .slice A0_1 l0_1.length c0_1] 24 (0, 0)) (by exact kP BK305.out) hb);have n3_ := Aside0.mk (below_step (by exact bB) hb);clear HO310;clear BK305;clear HB;have HO310 := n0_;have HO313 := n1_;have BK305 := n2_;have HB := n3_;clear n0_ n1_ n2_ n3_;(try clear hb);(try clear hb2);(try clear hk);(try clear hi);(try clear ho0);have hcz21_0 : w20.cell? ⟨gb305, 0, none⟩ = some (.int .i64 a0_0) := (blk_cell BK305.out 0).trans rfl;have hcz21_1 : w20.cell? ⟨gb305, 1, none⟩ = some (.slice A0_1 l0_1.length c0_1) := (blk_cell BK305.out 1).trans rfl;have hfz21_0 := blk_frozen BK305.out 0;have hfz21_1 := blk_frozen BK305.out 1) | ((with_reducible refine gate_callee (f := 11) rfl ?_);refine goesL_ (some 32) rfl rfl Try.func11 (by kernel_rfl) rfl #[.agg #[.int .i64 a0_0, .slice A0_1 l0_1.length c0_1]] rfl mM ?_;(with_reducible refine (laws_toGraph.calls k a0_0 _ _ l0_1 t315 t316 _ ?side1 ?side2 A11.out).mono ?_);(case side1 => exact cP (Kd.C_below HR0_1.out HB.out));(case side2 => exact HC0_1.out);rintro e w22 ⟨v317, rfl, ho0, hb⟩;refine ⟨_, rfl, ?_⟩;have n0_ := Aside0.mk (Kd.R_elder' (by (with_reducible repeat (first | apply Kd.R_alloc | apply Kd.S_alloc | apply Kd.N_alloc | apply Kd.R_drewN | apply Kd.S_drewN | apply Kd.N_drewN | apply Kd.R_drew | apply Kd.S_drew | apply Kd.N_drew));exact HO310.out) (Kd.R_base ho0) hb);have n1_ := Aside0.mk (Kd.N_elder' (by (with_reducible repeat (first | apply Kd.R_alloc | apply Kd.S_alloc | apply Kd.N_alloc | apply Kd.R_drewN | apply Kd.S_drewN | apply Kd.N_drewN | apply Kd.R_drew | apply Kd.S_drew | apply Kd.N_drew));exact HO313.out) (Kd.R_base ho0) hb);have n2_ := Aside0.mk (Kd.R_lower (Kd.R_new' ho0 (Kd.R_lt (by (with_reducible repeat (first | apply Kd.R_alloc | apply Kd.S_alloc | apply Kd.N_alloc | apply Kd.R_drewN | apply Kd.S_drewN | apply Kd.N_drewN | apply Kd.R_drew | apply Kd.S_drew | apply Kd.N_drew));exact HO310.out))) (below_size (by exact bB)));have n3_ := Aside0.mk (blk_below (g := gb305) (o := .cells #[.int .i64 a0_0, .slice A0_1 l0_1.length c0_1] 24 (0, 0)) (by exact kP BK305.out) hb);have n4_ := Aside0.mk (below_step (by exact bB) hb);clear HO310;clear HO313;clear BK305;clear HB;have HO310 := n0_;have HO313 := n1_;have HO318 := n2_;have BK305 := n3_;have HB := n4_;clear n0_ n1_ n2_ n3_ n4_;(try clear hb);(try clear hb2);(try clear hk);(try clear hi);(try clear ho0)) | ((with_reducible refine gate_dst (N := 10) rfl ?_);refine box_event ?hg (N := 10) ?hd (cs := #[.int .i64 0, .slice none 0 0]) (t := 29) ?hr ?_;(case hd => rfl);(case hg => rfl);(case hr => first | (go_simp;done) | (go_simp;rfl));intro gb319 hg w23 hbox hb;have n0_ := Aside0.mk (Kd.R_below (by (with_reducible repeat (first | apply Kd.R_alloc | apply Kd.S_alloc | apply Kd.N_alloc | apply Kd.R_drewN | apply Kd.S_drewN | apply Kd.N_drewN | apply Kd.R_drew | apply Kd.S_drew | apply Kd.N_drew));exact HO310.out) hb);have n1_ := Aside0.mk (Kd.N_below (Kd.N_elderB (by (with_reducible repeat (first | apply Kd.R_alloc | apply Kd.S_alloc | apply Kd.N_alloc | apply Kd.R_drewN | apply Kd.S_drewN | apply Kd.N_drewN | apply Kd.R_drew | apply Kd.S_drew | apply Kd.N_drew));exact HO313.out) gb319 (by rw [hg];exact Nat.le_refl _)) hb);have n2_ := Aside0.mk (Kd.R_below (by (with_reducible repeat (first | apply Kd.R_alloc | apply Kd.S_alloc | apply Kd.N_alloc | apply Kd.R_drewN | apply Kd.S_drewN | apply Kd.N_drewN | apply Kd.R_drew | apply Kd.S_drew | apply Kd.N_drew));exact HO318.out) hb);have n3_ := Aside0.mk (blk_below (g := gb305) (o := .cells #[.int .i64 a0_0, .slice A0_1 l0_1.length c0_1] 24 (0, 0)) (by exact kP BK305.out) hb);have n4_ := Aside0.mk (below_step (by exact bB) hb);have n5_ := Aside0.mk (hbox);have n6_ := Aside0.mk ((by rw [hg];exact (below_size (by exact bB)) : w.heap.size ≤ gb319));have n7_ := Aside0.mk ((by rw [hg];exact (below_size (by exact bB)) : w.heap.size ≤ gb319));have n8_ := Aside0.mk ((by rw [hg];exact Nat.ne_of_lt (blk_lt (g := gb305) (o := .cells #[.int .i64 a0_0, .slice A0_1 l0_1.length c0_1] 24 (0, 0)) (by exact kP BK305.out)) : gb305 ≠ gb319));have n9_ := Aside0.mk ((by rw [hg];exact Nat.ne_of_gt (blk_lt (g := gb305) (o := .cells #[.int .i64 a0_0, .slice A0_1 l0_1.length c0_1] 24 (0, 0)) (by exact kP BK305.out)) : gb319 ≠ gb305));clear HO310;clear HO313;clear HO318;clear BK305;clear HB;have HO310 := n0_;have HO313 := n1_;have HO318 := n2_;have BK305 := n3_;have HB := n4_;have BK319 := n5_;have GW319 := n6_;have GE319 := n7_;have NB305_319 := n8_;have NB319_305 := n9_;clear n0_ n1_ n2_ n3_ n4_ n5_ n6_ n7_ n8_ n9_;clear hb hbox hg;have hnb24 := NB319_305.out;have hnc24 := NB305_319.out;have hcz25_0 : w23.cell? ⟨gb319, 0, none⟩ = some (.int .i64 0) := (blk_cell BK319.out 0).trans rfl;have hcz25_1 : w23.cell? ⟨gb319, 1, none⟩ = some (.slice none 0 0) := (blk_cell BK319.out 1).trans rfl;have hfz25_0 := blk_frozen BK319.out 0;have hfz25_1 := blk_frozen BK319.out 1;obtain ⟨Ao26, co26, eo26⟩ := Kd.R_slice HO318.out;subst eo26) | ((with_reducible refine gate_callee (f := 29) rfl ?_);refine goesL_ (some 37) rfl rfl Try.func29 (by kernel_rfl) rfl #[.agg #[.int .i64 t315, .slice Ao26 t316.length co26], .int .i64 a1, .int .i64 a2] rfl mM ?_;(with_reducible refine (impl_BestFirePlan.calls k t315 _ _ t316 a1 a2 t320 t323 _ ?side1 ?side2 A12.out).mono ?_);(case side1 => refine (Kd.R_reads' (e := 80) (base := w.heap.size) (ok := fun k_ => (True ∧ some k_ ≠ (.slice Ao19 t308.length co19 : Value).ownBlock)) (n := t316.length) (c := co26) ?_).2.2;exact (by (with_reducible repeat (first | apply Kd.R_alloc | apply Kd.S_alloc | apply Kd.N_alloc | apply Kd.R_drewN | apply Kd.S_drewN | apply Kd.N_drewN | apply Kd.R_drew | apply Kd.S_drew | apply Kd.N_drew));exact (Kd.R_mono (Kd.R_far (p := ⟨gb319, 1, none⟩) (Kd.R_far (p := ⟨gb319, 0, none⟩) (Kd.R_types HO318.out BK319.out (by decide)) (fun _ hk => hk.2) (.int .i64 t315)) (fun _ hk => hk.2) (.slice Ao26 t316.length co26)) (fun _ h_ => h_.1))));(case side2 => exact (Kd.R_reads' HO318.out).2.1);rintro e w27 ⟨v321, rfl, ho0, hb⟩;refine ⟨_, rfl, ?_⟩;obtain ⟨P9_, hp9_⟩ := mine9_old hb;have n0_ := Aside0.mk (Kd.R_below (by (with_reducible repeat (first | apply Kd.R_alloc | apply Kd.S_alloc | apply Kd.N_alloc | apply Kd.R_drewN | apply Kd.S_drewN | apply Kd.N_drewN | apply Kd.R_drew | apply Kd.S_drew | apply Kd.N_drew));exact (Kd.R_mono (Kd.R_far (p := ⟨gb319, 1, none⟩) (Kd.R_far (p := ⟨gb319, 0, none⟩) (Kd.R_types HO310.out BK319.out (by decide)) (fun _ hk => hk.2) (.int .i64 t315)) (fun _ hk => hk.2) (.slice Ao26 t316.length co26)) (fun _ h_ => h_.1))) hb);have n1_ := Aside0.mk (Kd.N_mono (ok' := fun k_ => ¬ P9_ k_ ∧ some k_ ≠ (.slice Ao26 t316.length co26 : Value).ownBlock) (Kd.N_old (ok := fun k_ => True ∧ some k_ ≠ (.slice Ao26 t316.length co26 : Value).ownBlock) (by (with_reducible repeat (first | apply Kd.R_alloc | apply Kd.S_alloc | apply Kd.N_alloc | apply Kd.R_drewN | apply Kd.S_drewN | apply Kd.N_drewN | apply Kd.R_drew | apply Kd.S_drew | apply Kd.N_drew));exact (Kd.N_mono (ok' := fun k_ => True ∧ some k_ ≠ (.slice Ao26 t316.length co26 : Value).ownBlock) (Kd.N_far (p := ⟨gb319, 1, none⟩) (Kd.N_far (p := ⟨gb319, 0, none⟩) HO313.out (fun _ hk => hk.2) (.int .i64 t315)) (fun _ hk => hk.2) (.slice Ao26 t316.length co26)) (fun _ h_ => ⟨trivial, h_.1.2⟩))) hb) (fun k_ hk_ => ⟨fun h_ => absurd ((hp9_ k_).1 h_) (Nat.not_le.mpr hk_.2), hk_.1.2⟩));have n2_ := Aside0.mk (Kd.R_below (by (with_reducible repeat (first | apply Kd.R_alloc | apply Kd.S_alloc | apply Kd.N_alloc | apply Kd.R_drewN | apply Kd.S_drewN | apply Kd.N_drewN | apply Kd.R_drew | apply Kd.S_drew | apply Kd.N_drew));exact (Kd.R_mono (Kd.R_far (p := ⟨gb319, 1, none⟩) (Kd.R_far (p := ⟨gb319, 0, none⟩) (Kd.R_types HO318.out BK319.out (by decide)) (fun _ hk => hk.2) (.int .i64 t315)) (fun _ hk => hk.2) (.slice Ao26 t316.length co26)) (fun _ h_ => h_.1))) hb);have n3_ := Aside0.mk (Kd.S_lower (Kd.S_mono (ok' := fun k_ => P9_ k_) (Kd.S_bound ho0) (fun k_ hk_ => (hp9_ k_).2 hk_.2.1)) (below_size (by exact bB)));have n4_ := Aside0.mk (blk_below (g := gb305) (o := .cells #[.int .i64 a0_0, .slice A0_1 l0_1.length c0_1] 24 (0, 0)) (by refine kP ?_;refine blk_far ?_ NB305_319.out _;refine kP ?_;refine blk_far ?_ NB305_319.out _;exact kP BK305.out) hb);have n5_ := Aside0.mk (blk_below (g := gb319) (o := .cells #[.int .i64 t315, .slice Ao26 t316.length co26] 29 (0, 0)) (by refine kP ?_;refine blk_put (cs := #[.int .i64 t315, .slice none 0 0]) ?_ 1 _ rfl;refine kP ?_;refine blk_put (cs := #[.int .i64 0, .slice none 0 0]) ?_ 0 _ rfl;exact kP BK319.out) hb);have n6_ := Aside0.mk (below_step (by exact bB) hb);clear HO310;clear HO313;clear HO318;clear BK305;clear BK319;clear HB;have HO310 := n0_;have HO313 := n1_;have HO318 := n2_;have HO322 := n3_;have BK305 := n4_;have BK319 := n5_;have HB := n6_;clear n0_ n1_ n2_ n3_ n4_ n5_ n6_;(try clear hb);(try clear hb2);(try clear hk);(try clear hi);(try clear ho0)))
  (try simp only [Act.put, List.setIfInBounds_toArray, List.set_cons_zero, List.set_cons_succ])
  go_cut [48] (fun v48 wc => ∃ (P9_ : Nat → Prop) (kq : Nat) (x48_12 : Bool), v48 = .bool x48_12 ∧ Aside0 (laws_FnExactBestFirePlan.j0 kq a1 a2 t311 t314 t320 t323 x48_12 a0_0 l0_1 t315 t316 = some r) ∧ Aside0 (kq ≤ k) ∧ Aside0 (Kd.N (Kd.slice 3 (Kd.int .i64)) 25 wc w.heap.size (fun k_ => ¬ P9_ k_ ∧ some k_ ≠ (.slice Ao26 t316.length co26 : Value).ownBlock) v312 t311) ∧ Aside0 (Kd.S (Kd.slice 3 (Kd.int .i64)) 25 wc w.heap.size (fun k_ => P9_ k_) v321 t320) ∧ Aside0 (Kd.R k80 80 wc w.heap.size (fun _ => True) (.slice Ao26 t316.length co26) t316) ∧ Aside0 (wc.heap[gb305]? = some (.cells #[.int .i64 a0_0, (.slice A0_1 l0_1.length c0_1)] 24 (0, 0))) ∧ Aside0 (wc.heap[gb319]? = some (.cells #[.int .i64 t315, (.slice Ao26 t316.length co26)] 29 (0, 0))) ∧ Aside0 (Below w.heap.size w wc))
  case first =>
   have H := HC13.out
   clear HC13
   replace H := Option.bind_eq_some_iff.mp H
   obtain ⟨t324, A280, H⟩ := H
   replace H : (if t324 = true then (laws_FnExactBestFirePlan.j0 k a1 a2 t311 t314 t320 t323 (t323 != t314) a0_0 l0_1 t315 t316) else (laws_FnExactBestFirePlan.j0 k a1 a2 t311 t314 t320 t323 true a0_0 l0_1 t315 t316)) = some r := H
   have A28 := Aside0.mk A280
   clear A280
   by_cases c29 : t324 = true
   ·subst c29
    have H1 : (laws_FnExactBestFirePlan.j0 k a1 a2 t311 t314 t320 t323 (t323 != t314) a0_0 l0_1 t315 t316) = some r := by rw [if_pos rfl] at H;exact H
    clear H
    have H := H1
    clear H1
    have H' := Aside0.mk H
    clear H
    obtain ⟨Ao30, co30, eo30⟩ := Kd.S_slice HO322.out
    subst eo30
    obtain ⟨Ao31, co31, eo31⟩ := Kd.N_slice HO313.out
    subst eo31
    go_wp2_with (first | ((with_reducible refine gate_callee (f := 20) rfl ?_);refine goesL_ (some 42) rfl rfl Try.func20 (by kernel_rfl) rfl #[.slice Ao30 t320.length co30, .slice Ao31 t311.length co31] rfl mM ?_;(with_reducible refine (laws_eqIntSS.calls k _ _ t320 _ _ t311 true _ ?side1 ?side2 ?side3 ?side4 A28.out).mono ?_);(case side1 => exact cP (Kd.S_reads' HO322.out).2.2);(case side2 => exact (Kd.S_reads' HO322.out).2.1);(case side3 => exact cP (Kd.N_reads' HO313.out).2.2);(case side4 => exact (Kd.N_reads' HO313.out).2.1);rintro e w' ⟨rfl, ⟨nd, rfl⟩⟩;refine ⟨_, rfl, ?_⟩))
    go_meet
    case rel => exact ⟨P9_, _, ((t323 != t314)), (by first | rfl | (simp;done) | (simp [*];done)), H', ⟨by first | omega | exact Nat.le_refl _⟩, ⟨by (with_reducible repeat (first | apply Kd.R_alloc | apply Kd.S_alloc | apply Kd.N_alloc | apply Kd.R_drewN | apply Kd.S_drewN | apply Kd.N_drewN | apply Kd.R_drew | apply Kd.S_drew | apply Kd.N_drew));exact Kd.N_mono HO313.out (fun _ hk => by first | exact hk | exact hk.2 | exact hk.1 | exact hk.2.1 | exact ⟨hk.1, hk.2.1⟩ | trivial)⟩, ⟨by (with_reducible repeat (first | apply Kd.R_alloc | apply Kd.S_alloc | apply Kd.N_alloc | apply Kd.R_drewN | apply Kd.S_drewN | apply Kd.N_drewN | apply Kd.R_drew | apply Kd.S_drew | apply Kd.N_drew));exact Kd.S_mono HO322.out (fun _ hk => by first | exact hk | exact hk.2 | exact hk.1 | exact hk.2.1 | exact ⟨hk.1, hk.2.1⟩ | trivial)⟩, ⟨by (with_reducible repeat (first | apply Kd.R_alloc | apply Kd.S_alloc | apply Kd.N_alloc | apply Kd.R_drewN | apply Kd.S_drewN | apply Kd.N_drewN | apply Kd.R_drew | apply Kd.S_drew | apply Kd.N_drew));exact Kd.R_mono HO318.out (fun _ hk => trivial)⟩, ⟨by exact kP BK305.out⟩, ⟨by exact kP BK319.out⟩, ⟨by exact bB⟩⟩
   ·replace c29 := Bool.eq_false_iff.mpr c29
    subst c29
    have H1 : (laws_FnExactBestFirePlan.j0 k a1 a2 t311 t314 t320 t323 true a0_0 l0_1 t315 t316) = some r := by rw [if_neg (show ¬ (false = true) by decide)] at H;exact H
    clear H
    have H := H1
    clear H1
    have H' := Aside0.mk H
    clear H
    obtain ⟨Ao32, co32, eo32⟩ := Kd.S_slice HO322.out
    subst eo32
    obtain ⟨Ao33, co33, eo33⟩ := Kd.N_slice HO313.out
    subst eo33
    go_wp2_with (first | ((with_reducible refine gate_callee (f := 20) rfl ?_);refine goesL_ (some 42) rfl rfl Try.func20 (by kernel_rfl) rfl #[.slice Ao32 t320.length co32, .slice Ao33 t311.length co33] rfl mM ?_;(with_reducible refine (laws_eqIntSS.calls k _ _ t320 _ _ t311 false _ ?side1 ?side2 ?side3 ?side4 A28.out).mono ?_);(case side1 => exact cP (Kd.S_reads' HO322.out).2.2);(case side2 => exact (Kd.S_reads' HO322.out).2.1);(case side3 => exact cP (Kd.N_reads' HO313.out).2.2);(case side4 => exact (Kd.N_reads' HO313.out).2.1);rintro e w' ⟨rfl, ⟨nd, rfl⟩⟩;refine ⟨_, rfl, ?_⟩))
    go_meet
    case rel => exact ⟨P9_, _, (true), (by first | rfl | (simp;done) | (simp [*];done)), H', ⟨by first | omega | exact Nat.le_refl _⟩, ⟨by (with_reducible repeat (first | apply Kd.R_alloc | apply Kd.S_alloc | apply Kd.N_alloc | apply Kd.R_drewN | apply Kd.S_drewN | apply Kd.N_drewN | apply Kd.R_drew | apply Kd.S_drew | apply Kd.N_drew));exact Kd.N_mono HO313.out (fun _ hk => by first | exact hk | exact hk.2 | exact hk.1 | exact hk.2.1 | exact ⟨hk.1, hk.2.1⟩ | trivial)⟩, ⟨by (with_reducible repeat (first | apply Kd.R_alloc | apply Kd.S_alloc | apply Kd.N_alloc | apply Kd.R_drewN | apply Kd.S_drewN | apply Kd.N_drewN | apply Kd.R_drew | apply Kd.S_drew | apply Kd.N_drew));exact Kd.S_mono HO322.out (fun _ hk => by first | exact hk | exact hk.2 | exact hk.1 | exact hk.2.1 | exact ⟨hk.1, hk.2.1⟩ | trivial)⟩, ⟨by (with_reducible repeat (first | apply Kd.R_alloc | apply Kd.S_alloc | apply Kd.N_alloc | apply Kd.R_drewN | apply Kd.S_drewN | apply Kd.N_drewN | apply Kd.R_drew | apply Kd.S_drew | apply Kd.N_drew));exact Kd.R_mono HO318.out (fun _ hk => trivial)⟩, ⟨by exact kP BK305.out⟩, ⟨by exact kP BK319.out⟩, ⟨by exact bB⟩⟩
  case rest =>
   clear HC13
   try clear c1
   try clear c2
   try clear p2
   try clear c5
   try clear c5b0
   try clear c7
   try clear c9
   try clear c11
   try clear c20
   try clear c24
   try clear c28
   try clear c29
   try clear hcz15_0
   try clear hcz15_1
   try clear hcz17_0
   try clear hcz17_1
   try clear hcz21_0
   try clear hcz21_1
   try clear hcz25_0
   try clear hcz25_1
   try clear hcz7_0
   try clear hcz7_1
   try clear hfz15_0
   try clear hfz15_1
   try clear hfz17_0
   try clear hfz17_1
   try clear hfz21_0
   try clear hfz21_1
   try clear hfz25_0
   try clear hfz25_1
   try clear hfz7_0
   try clear hfz7_1
   obtain ⟨P9_, kq, x48_12, rfl, HA, HJ12, HO_8, HO_11, HO_320001, BK305, BK319, HB⟩ := hcut
   cases kq with
   | zero => exact absurd HA.out (by simp [laws_FnExactBestFirePlan.j0])
   | succ kj12 =>
    have H := HA.out
    clear HA
    simp only [laws_FnExactBestFirePlan.j0] at H
    by_cases c34 : x48_12 = true
    ·subst c34
     have H1 : (some false) = some r := by rw [if_pos rfl] at H;exact H
     clear H
     have H := H1
     clear H1
     obtain rfl := Option.some.inj H
     go_wp2
     go_ret
     exact ⟨by first | rfl | (simp [errW_none, errW_some] <;> rfl) | (simp [*, errW_none, errW_some] <;> rfl), by exact bB⟩
    ·replace c34 := Bool.eq_false_iff.mpr c34
     subst c34
     have H1 : ((laws_toGraph.f kj12 a0_0 l0_1).bind fun bt325 => ((laws_eqGraph.f kj12 t315 t316 bt325.1 bt325.2).bind fun t329 => (if t329 = true then ((laws_markGraph.f t315 t316 1).bind fun bt330 => (if bt330.1 < 0 then (laws_FnExactBestFirePlan.j1 kj12 a1 a2 t311 t314 t320 true a0_0 l0_1) else ((laws_eqIntSS.f kj12 t320 t311).bind fun t332 => (if t332 = true then (laws_FnExactBestFirePlan.j1 kj12 a1 a2 t311 t314 t320 (t323 != t314) a0_0 l0_1) else (laws_FnExactBestFirePlan.j1 kj12 a1 a2 t311 t314 t320 true a0_0 l0_1))))) else (some false)))) = some r := by rw [if_neg (show ¬ (false = true) by decide)] at H;exact H
     clear H
     have H := H1
     clear H1
     replace H := Option.bind_eq_some_iff.mp H
     obtain ⟨⟨t325, t326⟩, A350, H⟩ := H
     replace H : ((laws_eqGraph.f kj12 t315 t316 t325 t326).bind fun t329 => (if t329 = true then ((laws_markGraph.f t315 t316 1).bind fun bt330 => (if bt330.1 < 0 then (laws_FnExactBestFirePlan.j1 kj12 a1 a2 t311 t314 t320 true a0_0 l0_1) else ((laws_eqIntSS.f kj12 t320 t311).bind fun t332 => (if t332 = true then (laws_FnExactBestFirePlan.j1 kj12 a1 a2 t311 t314 t320 (t323 != t314) a0_0 l0_1) else (laws_FnExactBestFirePlan.j1 kj12 a1 a2 t311 t314 t320 true a0_0 l0_1))))) else (some false))) = some r := H
     have A35 := Aside0.mk A350
     clear A350
     replace H := Option.bind_eq_some_iff.mp H
     obtain ⟨t329, A360, H⟩ := H
     replace H : (if t329 = true then ((laws_markGraph.f t315 t316 1).bind fun bt330 => (if bt330.1 < 0 then (laws_FnExactBestFirePlan.j1 kj12 a1 a2 t311 t314 t320 true a0_0 l0_1) else ((laws_eqIntSS.f kj12 t320 t311).bind fun t332 => (if t332 = true then (laws_FnExactBestFirePlan.j1 kj12 a1 a2 t311 t314 t320 (t323 != t314) a0_0 l0_1) else (laws_FnExactBestFirePlan.j1 kj12 a1 a2 t311 t314 t320 true a0_0 l0_1))))) else (some false)) = some r := H
     have A36 := Aside0.mk A360
     clear A360
     by_cases c37 : t329 = true
     ·subst c37
      have H1 : ((laws_markGraph.f t315 t316 1).bind fun bt330 => (if bt330.1 < 0 then (laws_FnExactBestFirePlan.j1 kj12 a1 a2 t311 t314 t320 true a0_0 l0_1) else ((laws_eqIntSS.f kj12 t320 t311).bind fun t332 => (if t332 = true then (laws_FnExactBestFirePlan.j1 kj12 a1 a2 t311 t314 t320 (t323 != t314) a0_0 l0_1) else (laws_FnExactBestFirePlan.j1 kj12 a1 a2 t311 t314 t320 true a0_0 l0_1))))) = some r := by rw [if_pos rfl] at H;exact H
      clear H
      have H := H1
      clear H1
      replace H := Option.bind_eq_some_iff.mp H
      obtain ⟨⟨t330, t331⟩, A380, H⟩ := H
      replace H : (if t330 < 0 then (laws_FnExactBestFirePlan.j1 kj12 a1 a2 t311 t314 t320 true a0_0 l0_1) else ((laws_eqIntSS.f kj12 t320 t311).bind fun t332 => (if t332 = true then (laws_FnExactBestFirePlan.j1 kj12 a1 a2 t311 t314 t320 (t323 != t314) a0_0 l0_1) else (laws_FnExactBestFirePlan.j1 kj12 a1 a2 t311 t314 t320 true a0_0 l0_1)))) = some r := H
      have A38 := Aside0.mk A380
      clear A380
      have HC39 := Aside0.mk H
      clear H
      try go_wp2
      have n0_ := Aside0.mk (Kd.N_drew HO_8.out)
      have n1_ := Aside0.mk (Kd.S_drew HO_11.out)
      have n2_ := Aside0.mk (Kd.R_drew HO_320001.out)
      have n3_ := Aside0.mk (blk_drew BK305.out)
      have n4_ := Aside0.mk (blk_drew BK319.out)
      have n5_ := Aside0.mk (below_drew1 HB.out)
      clear HO_8
      clear HO_11
      clear HO_320001
      clear BK305
      clear BK319
      clear HB
      have HO_8 := n0_
      have HO_11 := n1_
      have HO_320001 := n2_
      have BK305 := n3_
      have BK319 := n4_
      have HB := n5_
      clear n0_ n1_ n2_ n3_ n4_ n5_
      refine start_ (n := 5) (S := fun w' => w'.cell? ⟨gb319, 0, none⟩ = some (.int .i64 t315) ∧ w'.cell? ⟨gb319, 1, none⟩ = some (.slice Ao26 t316.length co26) ∧ w'.cell? ⟨gb305, 0, none⟩ = some (.int .i64 a0_0) ∧ w'.cell? ⟨gb305, 1, none⟩ = some (.slice A0_1 l0_1.length c0_1)) (ds := []) #[false,false,false,false,false] (by kernel_rfl) rfl rfl ⟨(blk_cell BK319.out 0).trans rfl, (blk_cell BK319.out 1).trans rfl, (blk_cell BK305.out 0).trans rfl, (blk_cell BK305.out 1).trans rfl⟩ (fun hHeld => ?_)
      generalize wc.drew = w40 at HO_8 HO_11 HO_320001 BK305 BK319 HB hHeld ⊢
      refine take_ (i := 0) (N := some 49) (v := ?_) (a' := ?_) #[true,false,false,false,false] rfl rfl (by kernel_rfl) (fun _ _ _ h => h) (Or.inl ⟨by rfl, ?_⟩) hHeld ?_ ?_
      rotate_left
      ·rintro w' ⟨s0, s1, s2, s3⟩
       go_simp
       with_reducible rfl
      rotate_left
      ·simp only [Act.put, List.setIfInBounds_toArray, List.set_cons_zero, List.set_cons_succ, i64_w, i32_w]
       rfl
      refine take_ (i := 1) (N := some 50) (v := ?_) (a' := ?_) #[true,true,false,false,false] rfl rfl (by kernel_rfl) (fun _ _ _ h => h) (Or.inl ⟨by rfl, ?_⟩) hHeld ?_ ?_
      rotate_left
      ·rintro w' ⟨s0, s1, s2, s3⟩
       go_simp
       with_reducible rfl
      rotate_left
      ·simp only [Act.put, List.setIfInBounds_toArray, List.set_cons_zero, List.set_cons_succ, i64_w, i32_w]
       rfl
      refine one_ (i := 2) (N := some 51) #[true,true,true,false,false] rfl rfl (by kernel_rfl) (by decide) (fun K hK => ?_)
      refine goes_ Try.func11 (by kernel_rfl) rfl #[.agg #[.int .i64 a0_0, .slice A0_1 l0_1.length c0_1]] (by rfl) rfl rfl mM ?_
      with_reducible refine (laws_toGraph.calls kj12 a0_0 _ _ l0_1 t325 t326 _ ?side1 ?side2 A35.out).mono ?_
      (case side1 => exact cP (Kd.C_below HR0_1.out HB.out))
      (case side2 => exact HC0_1.out)
      rintro e w41 ⟨v327, rfl, ho0, hb⟩
      refine ⟨_, rfl, ?_⟩
      have n0_ := Aside0.mk (Kd.N_below (by (with_reducible repeat (first | apply Kd.R_alloc | apply Kd.S_alloc | apply Kd.N_alloc | apply Kd.R_drewN | apply Kd.S_drewN | apply Kd.N_drewN | apply Kd.R_drew | apply Kd.S_drew | apply Kd.N_drew));exact HO_8.out) hb)
      have n1_ := Aside0.mk (Kd.S_below (by (with_reducible repeat (first | apply Kd.R_alloc | apply Kd.S_alloc | apply Kd.N_alloc | apply Kd.R_drewN | apply Kd.S_drewN | apply Kd.N_drewN | apply Kd.R_drew | apply Kd.S_drew | apply Kd.N_drew));exact HO_11.out) hb)
      have n2_ := Aside0.mk (Kd.R_elder' (by (with_reducible repeat (first | apply Kd.R_alloc | apply Kd.S_alloc | apply Kd.N_alloc | apply Kd.R_drewN | apply Kd.S_drewN | apply Kd.N_drewN | apply Kd.R_drew | apply Kd.S_drew | apply Kd.N_drew));exact HO_320001.out) (Kd.R_base ho0) hb)
      have n3_ := Aside0.mk (Kd.R_lower (Kd.R_new' ho0 (Kd.R_lt (by (with_reducible repeat (first | apply Kd.R_alloc | apply Kd.S_alloc | apply Kd.N_alloc | apply Kd.R_drewN | apply Kd.S_drewN | apply Kd.N_drewN | apply Kd.R_drew | apply Kd.S_drew | apply Kd.N_drew));exact HO_320001.out))) (below_size (by exact bB)))
      have n4_ := Aside0.mk (blk_below (g := gb305) (o := .cells #[.int .i64 a0_0, .slice A0_1 l0_1.length c0_1] 24 (0, 0)) (by exact kP BK305.out) hb)
      have n5_ := Aside0.mk (blk_below (g := gb319) (o := .cells #[.int .i64 t315, .slice Ao26 t316.length co26] 29 (0, 0)) (by exact kP BK319.out) hb)
      have n6_ := Aside0.mk (below_step (by exact bB) hb)
      clear HO_8
      clear HO_11
      clear HO_320001
      clear BK305
      clear BK319
      clear HB
      have HO_8 := n0_
      have HO_11 := n1_
      have HO_320001 := n2_
      have HO328 := n3_
      have BK305 := n4_
      have BK319 := n5_
      have HB := n6_
      clear n0_ n1_ n2_ n3_ n4_ n5_ n6_
      (try clear hb)
      (try clear hb2)
      (try clear hk)
      (try clear hi)
      (try clear ho0)
      obtain ⟨Ao42, co42, eo42⟩ := Kd.R_slice HO328.out
      (first | subst eo42 | (injection eo42 with f1_ f2_ f3_;have f4_ := f1_.symm;have f5_ := f3_.symm;clear f1_ f2_ f3_;subst f4_;subst f5_))
      refine hK.out _ _ ⟨(blk_cell BK319.out 0).trans rfl, (blk_cell BK319.out 1).trans rfl, (blk_cell BK305.out 0).trans rfl, (blk_cell BK305.out 1).trans rfl⟩ (fun hHeld => ?_)
      clear hK K
      refine norm_ (a' := ?_) ?_ ?_
      rotate_left
      ·show Act.put _ (some 51) _ = _
       simp only [Act.put, List.setIfInBounds_toArray, List.set_cons_zero, List.set_cons_succ, i64_w, i32_w]
       rfl
      refine one_ (i := 3) (N := some 52) #[true,true,true,true,false] rfl rfl (by kernel_rfl) (by decide) (fun K hK => ?_)
      refine goes_ Try.func14 (by kernel_rfl) rfl #[.agg #[.int .i64 t315, .slice Ao26 t316.length co26], .agg #[.int .i64 t325, .slice Ao42 t326.length co42]] (by rfl) rfl rfl mM ?_
      with_reducible refine (laws_eqGraph.calls kj12 t315 _ _ t316 t325 _ _ t326 true _ ?side1 ?side2 ?side3 ?side4 A36.out).mono ?_
      (case side1 => exact cP (Kd.R_reads' HO_320001.out).2.2)
      (case side2 => exact (Kd.R_reads' HO_320001.out).2.1)
      (case side3 => exact cP (Kd.R_reads' HO328.out).2.2)
      (case side4 => exact (Kd.R_reads' HO328.out).2.1)
      rintro e w43 ⟨rfl, hb⟩
      refine ⟨_, rfl, ?_⟩
      have n0_ := Aside0.mk (Kd.N_below (by (with_reducible repeat (first | apply Kd.R_alloc | apply Kd.S_alloc | apply Kd.N_alloc | apply Kd.R_drewN | apply Kd.S_drewN | apply Kd.N_drewN | apply Kd.R_drew | apply Kd.S_drew | apply Kd.N_drew));exact HO_8.out) hb)
      have n1_ := Aside0.mk (Kd.S_below (by (with_reducible repeat (first | apply Kd.R_alloc | apply Kd.S_alloc | apply Kd.N_alloc | apply Kd.R_drewN | apply Kd.S_drewN | apply Kd.N_drewN | apply Kd.R_drew | apply Kd.S_drew | apply Kd.N_drew));exact HO_11.out) hb)
      have n2_ := Aside0.mk (Kd.R_below (by (with_reducible repeat (first | apply Kd.R_alloc | apply Kd.S_alloc | apply Kd.N_alloc | apply Kd.R_drewN | apply Kd.S_drewN | apply Kd.N_drewN | apply Kd.R_drew | apply Kd.S_drew | apply Kd.N_drew));exact HO_320001.out) hb)
      have n3_ := Aside0.mk (Kd.R_below (by (with_reducible repeat (first | apply Kd.R_alloc | apply Kd.S_alloc | apply Kd.N_alloc | apply Kd.R_drewN | apply Kd.S_drewN | apply Kd.N_drewN | apply Kd.R_drew | apply Kd.S_drew | apply Kd.N_drew));exact HO328.out) hb)
      have n4_ := Aside0.mk (blk_below (g := gb305) (o := .cells #[.int .i64 a0_0, .slice A0_1 l0_1.length c0_1] 24 (0, 0)) (by exact kP BK305.out) hb)
      have n5_ := Aside0.mk (blk_below (g := gb319) (o := .cells #[.int .i64 t315, .slice Ao26 t316.length co26] 29 (0, 0)) (by exact kP BK319.out) hb)
      have n6_ := Aside0.mk (below_step (by exact bB) hb)
      clear HO_8
      clear HO_11
      clear HO_320001
      clear HO328
      clear BK305
      clear BK319
      clear HB
      have HO_8 := n0_
      have HO_11 := n1_
      have HO_320001 := n2_
      have HO328 := n3_
      have BK305 := n4_
      have BK319 := n5_
      have HB := n6_
      clear n0_ n1_ n2_ n3_ n4_ n5_ n6_
      (try clear hb)
      (try clear hb2)
      (try clear hk)
      (try clear hi)
      refine hK.out _ _ ⟨(blk_cell BK319.out 0).trans rfl, (blk_cell BK319.out 1).trans rfl, (blk_cell BK305.out 0).trans rfl, (blk_cell BK305.out 1).trans rfl⟩ (fun hHeld => ?_)
      clear hK K
      refine norm_ (a' := ?_) ?_ ?_
      rotate_left
      ·show Act.put _ (some 52) _ = _
       simp only [Act.put, List.setIfInBounds_toArray, List.set_cons_zero, List.set_cons_succ, i64_w, i32_w]
       rfl
      refine pure_ (i := 4) (N := some 53) (v := ?_) (a' := ?_) #[true,true,true,true,true] rfl rfl (by kernel_rfl) (fun _ _ _ h => h) (Or.inl ⟨by rfl, ?_⟩) ?_ ?_
      rotate_left
      ·intro w'
       go_simp
       with_reducible rfl
      rotate_left
      ·simp only [Act.put, List.setIfInBounds_toArray, List.set_cons_zero, List.set_cons_succ, i64_w, i32_w]
       rfl
      refine done_ (by kernel_rfl) ?_
      have hnb44 := NB319_305.out
      have hnc44 := NB305_319.out
      have hcz45_0 : w43.cell? ⟨gb319, 0, none⟩ = some (.int .i64 t315) := (blk_cell BK319.out 0).trans rfl
      have hcz45_1 : w43.cell? ⟨gb319, 1, none⟩ = some (.slice Ao26 t316.length co26) := (blk_cell BK319.out 1).trans rfl
      have hfz45_0 := blk_frozen BK319.out 0
      have hfz45_1 := blk_frozen BK319.out 1
      go_upto_region 14 with (first | ((with_reducible refine gate_callee (f := 21) rfl ?_);refine goesL_ (some 56) rfl rfl Try.func21 (by kernel_rfl) rfl #[.agg #[.int .i64 t315, .slice Ao26 t316.length co26], .int .i64 1] rfl mM ?_;(with_reducible refine (laws_markGraph.calls t315 (fun k_ => some k_ = (.slice Ao26 t316.length co26 : Value).ownBlock) (.slice Ao26 t316.length co26) t316 1 t330 t331 w _ ?side1 ?side2 A38.out).mono ?_);(case side1 => exact bB);(case side2 => exact Kd.R_tight rfl HO_320001.out);rintro e w46 ⟨rfl, hy0, hb, hkp⟩;refine ⟨_, rfl, ?_⟩;have n0_ := Aside0.mk (Kd.N_mono (ok' := fun k_ => ¬ P9_ k_) (Kd.N_keptB HO_8.out hkp (fun k_ hk_ hs_ => hk_.2 hs_)) (fun k_ hk_ => hk_.1.1));have n1_ := Aside0.mk (Kd.S_mono (ok' := fun k_ => P9_ k_) (Kd.S_keptB (Kd.S_apart' HO_11.out (Kd.R_typed HO_320001.out) (by decide)) hkp (fun k_ hk_ hs_ => hk_.2 hs_)) (fun k_ hk_ => hk_.1.1));have n2_ := Aside0.mk (Kd.R_reok rfl hy0 (fun k_ e_ => HO_320001.out.1 k_ e_));have n3_ := Aside0.mk (blk_kept (by exact kP BK305.out) hkp (fun hs_ => (fun e_ => (Kd.R_ne HO_320001.out BK305.out (by decide)) e_) hs_));have n4_ := Aside0.mk (blk_kept (by exact kP BK319.out) hkp (fun hs_ => (fun e_ => (Kd.R_ne HO_320001.out BK319.out (by decide)) e_) hs_));have n5_ := Aside0.mk (Kd.R_mono (ok' := fun k_ => some k_ ≠ (.slice Ao26 t316.length co26 : Value).ownBlock) (Kd.R_keptB (HO328.out) hkp (fun k_ hk_ hs_ => (hk_.2) hs_)) (fun k_ hk_ => hk_.1.2));have n6_ := Aside0.mk (hb);clear HO_8;clear HO_11;clear HO_320001;clear BK305;clear BK319;clear HO328;clear HB;have HO_8 := n0_;have HO_11 := n1_;have HO_320001 := n2_;have BK305 := n3_;have BK319 := n4_;have HO328 := n5_;have HB := n6_;clear n0_ n1_ n2_ n3_ n4_ n5_ n6_;(try clear hb);(try clear hkp);(try clear hy0)))
      (try simp only [Act.put, List.setIfInBounds_toArray, List.set_cons_zero, List.set_cons_succ])
      go_cut [69] (fun v69 wc => ∃ (P9_ : Nat → Prop) (kq : Nat) (x69_38 : Bool), v69 = .bool x69_38 ∧ Aside0 (laws_FnExactBestFirePlan.j1 kq a1 a2 t311 t314 t320 x69_38 a0_0 l0_1 = some r) ∧ Aside0 (kq ≤ kj12) ∧ Aside0 (Kd.N (Kd.slice 3 (Kd.int .i64)) 25 wc w.heap.size (fun k_ => ¬ P9_ k_) v312 t311) ∧ Aside0 (Kd.S (Kd.slice 3 (Kd.int .i64)) 25 wc w.heap.size (fun k_ => P9_ k_) v321 t320) ∧ Aside0 (Kd.R k80 80 wc w.heap.size (fun _ => True) (.slice Ao26 t316.length co26) t331) ∧ Aside0 (wc.heap[gb305]? = some (.cells #[.int .i64 a0_0, (.slice A0_1 l0_1.length c0_1)] 24 (0, 0))) ∧ Aside0 (wc.heap[gb319]? = some (.cells #[.int .i64 t315, (.slice Ao26 t316.length co26)] 29 (0, 0))) ∧ Aside0 (Below w.heap.size w wc))
      case first =>
       have H := HC39.out
       clear HC39
       by_cases c47 : t330 < 0
       ·rw [if_pos c47] at H
        have c47b0 : decide (t330 < 0) = true := decide_eq_true c47
        clear c47
        (first | rw [c47b0] | (simp only [i64_w, i32_w];rw [c47b0]) | skip)
        have H' := Aside0.mk H
        clear H
        go_wp2
        go_meet
        case rel => exact ⟨P9_, _, (true), (by first | rfl | (simp;done) | (simp [*];done)), H', ⟨by have := HJ12.out;first | omega | exact Nat.le_refl _⟩, ⟨by (with_reducible repeat (first | apply Kd.R_alloc | apply Kd.S_alloc | apply Kd.N_alloc | apply Kd.R_drewN | apply Kd.S_drewN | apply Kd.N_drewN | apply Kd.R_drew | apply Kd.S_drew | apply Kd.N_drew));exact HO_8.out⟩, ⟨by (with_reducible repeat (first | apply Kd.R_alloc | apply Kd.S_alloc | apply Kd.N_alloc | apply Kd.R_drewN | apply Kd.S_drewN | apply Kd.N_drewN | apply Kd.R_drew | apply Kd.S_drew | apply Kd.N_drew));exact HO_11.out⟩, ⟨by (with_reducible repeat (first | apply Kd.R_alloc | apply Kd.S_alloc | apply Kd.N_alloc | apply Kd.R_drewN | apply Kd.S_drewN | apply Kd.N_drewN | apply Kd.R_drew | apply Kd.S_drew | apply Kd.N_drew));exact Kd.R_mono HO_320001.out (fun _ hk => trivial)⟩, ⟨by exact kP BK305.out⟩, ⟨by exact kP BK319.out⟩, ⟨by exact bB⟩⟩
       ·rw [if_neg c47] at H
        have c47b0 : decide (t330 < 0) = false := decide_eq_false c47
        clear c47
        (first | rw [c47b0] | (simp only [i64_w, i32_w];rw [c47b0]) | skip)
        replace H := Option.bind_eq_some_iff.mp H
        obtain ⟨t332, A480, H⟩ := H
        replace H : (if t332 = true then (laws_FnExactBestFirePlan.j1 kj12 a1 a2 t311 t314 t320 (t323 != t314) a0_0 l0_1) else (laws_FnExactBestFirePlan.j1 kj12 a1 a2 t311 t314 t320 true a0_0 l0_1)) = some r := H
        have A48 := Aside0.mk A480
        clear A480
        by_cases c49 : t332 = true
        ·subst c49
         have H1 : (laws_FnExactBestFirePlan.j1 kj12 a1 a2 t311 t314 t320 (t323 != t314) a0_0 l0_1) = some r := by rw [if_pos rfl] at H;exact H
         clear H
         have H := H1
         clear H1
         have H' := Aside0.mk H
         clear H
         obtain ⟨Ao50, co50, eo50⟩ := Kd.S_slice HO_11.out
         subst eo50
         obtain ⟨Ao51, co51, eo51⟩ := Kd.N_slice HO_8.out
         subst eo51
         go_wp2_with (first | (go_at_call 20;(with_reducible refine (laws_eqIntSS.calls kj12 _ _ t320 _ _ t311 true _ ?side1 ?side2 ?side3 ?side4 A48.out).mono ?_);(case side1 => exact cP (Kd.S_reads' HO_11.out).2.2);(case side2 => exact (Kd.S_reads' HO_11.out).2.1);(case side3 => exact cP (Kd.N_reads' HO_8.out).2.2);(case side4 => exact (Kd.N_reads' HO_8.out).2.1);rintro e w' ⟨rfl, ⟨nd, rfl⟩⟩))
         go_meet
         case rel => exact ⟨P9_, _, ((t323 != t314)), (by first | rfl | (simp;done) | (simp [*];done)), H', ⟨by have := HJ12.out;first | omega | exact Nat.le_refl _⟩, ⟨by (with_reducible repeat (first | apply Kd.R_alloc | apply Kd.S_alloc | apply Kd.N_alloc | apply Kd.R_drewN | apply Kd.S_drewN | apply Kd.N_drewN | apply Kd.R_drew | apply Kd.S_drew | apply Kd.N_drew));exact HO_8.out⟩, ⟨by (with_reducible repeat (first | apply Kd.R_alloc | apply Kd.S_alloc | apply Kd.N_alloc | apply Kd.R_drewN | apply Kd.S_drewN | apply Kd.N_drewN | apply Kd.R_drew | apply Kd.S_drew | apply Kd.N_drew));exact HO_11.out⟩, ⟨by (with_reducible repeat (first | apply Kd.R_alloc | apply Kd.S_alloc | apply Kd.N_alloc | apply Kd.R_drewN | apply Kd.S_drewN | apply Kd.N_drewN | apply Kd.R_drew | apply Kd.S_drew | apply Kd.N_drew));exact Kd.R_mono HO_320001.out (fun _ hk => trivial)⟩, ⟨by exact kP BK305.out⟩, ⟨by exact kP BK319.out⟩, ⟨by exact bB⟩⟩
        ·replace c49 := Bool.eq_false_iff.mpr c49
         subst c49
         have H1 : (laws_FnExactBestFirePlan.j1 kj12 a1 a2 t311 t314 t320 true a0_0 l0_1) = some r := by rw [if_neg (show ¬ (false = true) by decide)] at H;exact H
         clear H
         have H := H1
         clear H1
         have H' := Aside0.mk H
         clear H
         obtain ⟨Ao52, co52, eo52⟩ := Kd.S_slice HO_11.out
         subst eo52
         obtain ⟨Ao53, co53, eo53⟩ := Kd.N_slice HO_8.out
         subst eo53
         go_wp2_with (first | (go_at_call 20;(with_reducible refine (laws_eqIntSS.calls kj12 _ _ t320 _ _ t311 false _ ?side1 ?side2 ?side3 ?side4 A48.out).mono ?_);(case side1 => exact cP (Kd.S_reads' HO_11.out).2.2);(case side2 => exact (Kd.S_reads' HO_11.out).2.1);(case side3 => exact cP (Kd.N_reads' HO_8.out).2.2);(case side4 => exact (Kd.N_reads' HO_8.out).2.1);rintro e w' ⟨rfl, ⟨nd, rfl⟩⟩))
         go_meet
         case rel => exact ⟨P9_, _, (true), (by first | rfl | (simp;done) | (simp [*];done)), H', ⟨by have := HJ12.out;first | omega | exact Nat.le_refl _⟩, ⟨by (with_reducible repeat (first | apply Kd.R_alloc | apply Kd.S_alloc | apply Kd.N_alloc | apply Kd.R_drewN | apply Kd.S_drewN | apply Kd.N_drewN | apply Kd.R_drew | apply Kd.S_drew | apply Kd.N_drew));exact HO_8.out⟩, ⟨by (with_reducible repeat (first | apply Kd.R_alloc | apply Kd.S_alloc | apply Kd.N_alloc | apply Kd.R_drewN | apply Kd.S_drewN | apply Kd.N_drewN | apply Kd.R_drew | apply Kd.S_drew | apply Kd.N_drew));exact HO_11.out⟩, ⟨by (with_reducible repeat (first | apply Kd.R_alloc | apply Kd.S_alloc | apply Kd.N_alloc | apply Kd.R_drewN | apply Kd.S_drewN | apply Kd.N_drewN | apply Kd.R_drew | apply Kd.S_drew | apply Kd.N_drew));exact Kd.R_mono HO_320001.out (fun _ hk => trivial)⟩, ⟨by exact kP BK305.out⟩, ⟨by exact kP BK319.out⟩, ⟨by exact bB⟩⟩
      case rest =>
       clear HC39
       try clear c1
       try clear c2
       try clear p2
       try clear c3
       try clear c4
       try clear c5
       try clear c5b0
       try clear c7
       try clear c9
       try clear c11
       try clear c14
       try clear c20
       try clear c21
       try clear c24
       try clear c28
       try clear c29
       try clear c34
       try clear c37
       try clear c44
       try clear c47
       try clear c47b0
       try clear c49
       try clear hcz15_0
       try clear hcz15_1
       try clear hcz17_0
       try clear hcz17_1
       try clear hcz21_0
       try clear hcz21_1
       try clear hcz25_0
       try clear hcz25_1
       try clear hcz45_0
       try clear hcz45_1
       try clear hcz7_0
       try clear hcz7_1
       try clear hfz15_0
       try clear hfz15_1
       try clear hfz17_0
       try clear hfz17_1
       try clear hfz21_0
       try clear hfz21_1
       try clear hfz25_0
       try clear hfz25_1
       try clear hfz45_0
       try clear hfz45_1
       try clear hfz7_0
       try clear hfz7_1
       try clear p2
       obtain ⟨P9_, kq, x69_38, rfl, HA, HJ38, HO_8, HO_11, HO_320001, BK305, BK319, HB⟩ := hcut
       have hl320001_38 := (Kd.R_reads' HO_320001.out).1
       rw [hl320001_38] at HO_320001
       (try simp only [hl320001_38])
       (try simp only [hl320001_38] at BK305)
       (try simp only [hl320001_38] at BK319)
       (try simp only [hl320001_38] at HO_8)
       (try simp only [hl320001_38] at HO_11)
       cases kq with
       | zero => exact absurd HA.out (by simp [laws_FnExactBestFirePlan.j1])
       | succ kj38 =>
        have H := HA.out
        clear HA
        simp only [laws_FnExactBestFirePlan.j1] at H
        by_cases c54 : x69_38 = true
        ·subst c54
         have H1 : (some false) = some r := by rw [if_pos rfl] at H;exact H
         clear H
         have H := H1
         clear H1
         obtain rfl := Option.some.inj H
         go_wp2
         go_ret
         exact ⟨by first | rfl | (simp [errW_none, errW_some] <;> rfl) | (simp [*, errW_none, errW_some] <;> rfl), by exact bB⟩
        ·replace c54 := Bool.eq_false_iff.mpr c54
         subst c54
         have H1 : ((laws_markIntSS.f kj38 t320 1).bind fun bt333 => ((laws_heldIntSS.f kj38 bt333.2 1).bind fun t335 => (if t335 < 0 then (some false) else (if t335 = bt333.1 then ((laws_toGraph.f kj38 a0_0 l0_1).bind fun bt336 => ((impl_BestFirePlan.f kj38 bt336.1 bt336.2 a1 a2).bind fun bt340 => ((laws_eqIntSS.f kj38 bt340.1 t311).bind fun t344 => (if t344 = true then (laws_FnExactBestFirePlan.j2 kj38 bt333.2 bt333.1 (bt340.2 != t314)) else (laws_FnExactBestFirePlan.j2 kj38 bt333.2 bt333.1 true))))) else (some false))))) = some r := by rw [if_neg (show ¬ (false = true) by decide)] at H;exact H
         clear H
         have H := H1
         clear H1
         replace H := Option.bind_eq_some_iff.mp H
         obtain ⟨⟨t333, t334⟩, A550, H⟩ := H
         replace H : ((laws_heldIntSS.f kj38 t334 1).bind fun t335 => (if t335 < 0 then (some false) else (if t335 = t333 then ((laws_toGraph.f kj38 a0_0 l0_1).bind fun bt336 => ((impl_BestFirePlan.f kj38 bt336.1 bt336.2 a1 a2).bind fun bt340 => ((laws_eqIntSS.f kj38 bt340.1 t311).bind fun t344 => (if t344 = true then (laws_FnExactBestFirePlan.j2 kj38 t334 t333 (bt340.2 != t314)) else (laws_FnExactBestFirePlan.j2 kj38 t334 t333 true))))) else (some false)))) = some r := H
         have A55 := Aside0.mk A550
         clear A550
         replace H := Option.bind_eq_some_iff.mp H
         obtain ⟨t335, A560, H⟩ := H
         replace H : (if t335 < 0 then (some false) else (if t335 = t333 then ((laws_toGraph.f kj38 a0_0 l0_1).bind fun bt336 => ((impl_BestFirePlan.f kj38 bt336.1 bt336.2 a1 a2).bind fun bt340 => ((laws_eqIntSS.f kj38 bt340.1 t311).bind fun t344 => (if t344 = true then (laws_FnExactBestFirePlan.j2 kj38 t334 t333 (bt340.2 != t314)) else (laws_FnExactBestFirePlan.j2 kj38 t334 t333 true))))) else (some false))) = some r := H
         have A56 := Aside0.mk A560
         clear A560
         by_cases c57 : t335 < 0
         ·rw [if_pos c57] at H
          have c57b0 : decide (t335 < 0) = true := decide_eq_true c57
          clear c57
          obtain rfl := Option.some.inj H
          obtain ⟨Ao58, co58, eo58⟩ := Kd.S_slice HO_11.out
          subst eo58
          go_wp2_with (first | ((with_reducible refine gate_callee (f := 22) rfl ?_);refine goesL_ (some 72) rfl rfl Try.func22 (by kernel_rfl) rfl #[.slice Ao58 t320.length co58, .int .i64 1] rfl mM ?_;(with_reducible refine (laws_markIntSS.calls kj38 ?P9a0 (.slice Ao58 t320.length co58) t320 1 t333 t334 w _ ?side1 ?side2 A55.out).mono ?_);(case side1 => exact bB);(case side2 => exact mine9 HO_11.out);rintro e w59 ⟨rfl, hy0, hb, hkp⟩;refine ⟨_, rfl, ?_⟩;have n0_ := Aside0.mk (Kd.N_mono (ok' := fun k_ => ¬ P9_ k_) (Kd.N_keptB HO_8.out hkp (fun k_ hk_ hs_ => hk_ hs_.1)) (fun k_ hk_ => hk_.1));have n1_ := Aside0.mk (Kd.S_mono (ok' := fun k_ => True) hy0 (fun _ _ => trivial));have n2_ := Aside0.mk (Kd.R_mono (ok' := fun k_ => True) (Kd.R_keptB (mine9_R HO_320001.out (by decide)) hkp (fun k_ hk_ hs_ => hk_ hs_)) (fun k_ hk_ => trivial));have n3_ := Aside0.mk (blk_kept (by exact kP BK305.out) hkp (fun hs_ => mine9_block hs_ BK305.out (by decide)));have n4_ := Aside0.mk (blk_kept (by exact kP BK319.out) hkp (fun hs_ => mine9_block hs_ BK319.out (by decide)));have n5_ := Aside0.mk (hb);clear HO_8;clear HO_11;clear HO_320001;clear BK305;clear BK319;clear HB;have HO_8 := n0_;have HO_11 := n1_;have HO_320001 := n2_;have BK305 := n3_;have BK319 := n4_;have HB := n5_;clear n0_ n1_ n2_ n3_ n4_ n5_;(try clear hb);(try clear hkp);(try clear hy0)) | ((with_reducible refine gate_callee (f := 23) rfl ?_);refine goesL_ (some 75) rfl rfl Try.func23 (by kernel_rfl) rfl #[.slice Ao58 t334.length co58, .int .i64 1] rfl (by (try simp only [List.map_toArray, List.map_cons, List.map_nil]);first | done | (rw [show t334.length = t320.length from (Kd.S_reads' HO_11.out).1.symm] <;> rfl) | rfl | (simp only [List.length_drop, List.length_take];rfl)) ?_;(with_reducible refine (laws_heldIntSS.calls kj38 _ _ t334 1 t335 _ ?side1 ?side2 A56.out).mono ?_);(case side1 => exact cP (Kd.S_reads' HO_11.out).2.2);(case side2 => rw [show t334.length = t320.length from (Kd.S_reads' HO_11.out).1.symm];exact (Kd.S_reads' HO_11.out).2.1);rintro e w' ⟨rfl, ⟨nd, rfl⟩⟩;refine ⟨_, rfl, ?_⟩))
          go_ret
          exact ⟨by first | rfl | (simp [errW_none, errW_some] <;> rfl) | (simp [*, errW_none, errW_some] <;> rfl), by exact bB⟩
         ·rw [if_neg c57] at H
          have c57b0 : decide (t335 < 0) = false := decide_eq_false c57
          clear c57
          by_cases c60 : t335 = t333
          ·rw [if_pos c60] at H
           have c60b0 : (t335 == t333) = true := beq_iff_eq.mpr c60
           have c60b1 : (t335 != t333) = false := bne_eq_false_iff_eq.mpr c60
           clear c60
           replace H := Option.bind_eq_some_iff.mp H
           obtain ⟨⟨t336, t337⟩, A610, H⟩ := H
           replace H : ((impl_BestFirePlan.f kj38 t336 t337 a1 a2).bind fun bt340 => ((laws_eqIntSS.f kj38 bt340.1 t311).bind fun t344 => (if t344 = true then (laws_FnExactBestFirePlan.j2 kj38 t334 t333 (bt340.2 != t314)) else (laws_FnExactBestFirePlan.j2 kj38 t334 t333 true)))) = some r := H
           have A61 := Aside0.mk A610
           clear A610
           replace H := Option.bind_eq_some_iff.mp H
           obtain ⟨⟨t340, t343⟩, A620, H⟩ := H
           replace H : ((laws_eqIntSS.f kj38 t340 t311).bind fun t344 => (if t344 = true then (laws_FnExactBestFirePlan.j2 kj38 t334 t333 (t343 != t314)) else (laws_FnExactBestFirePlan.j2 kj38 t334 t333 true))) = some r := H
           have A62 := Aside0.mk A620
           clear A620
           have HC63 := Aside0.mk H
           clear H
           obtain ⟨Ao64, co64, eo64⟩ := Kd.S_slice HO_11.out
           subst eo64
           go_upto_region 25 with (first | ((with_reducible refine gate_callee (f := 22) rfl ?_);refine goesL_ (some 72) rfl rfl Try.func22 (by kernel_rfl) rfl #[.slice Ao64 t320.length co64, .int .i64 1] rfl mM ?_;(with_reducible refine (laws_markIntSS.calls kj38 ?P9a1 (.slice Ao64 t320.length co64) t320 1 t333 t334 w _ ?side1 ?side2 A55.out).mono ?_);(case side1 => exact bB);(case side2 => exact mine9 HO_11.out);rintro e w65 ⟨rfl, hy0, hb, hkp⟩;refine ⟨_, rfl, ?_⟩;have n0_ := Aside0.mk (Kd.N_mono (ok' := fun k_ => ¬ P9_ k_) (Kd.N_keptB HO_8.out hkp (fun k_ hk_ hs_ => hk_ hs_.1)) (fun k_ hk_ => hk_.1));have n1_ := Aside0.mk (Kd.S_mono (ok' := fun k_ => True) hy0 (fun _ _ => trivial));have n2_ := Aside0.mk (Kd.R_mono (ok' := fun k_ => True) (Kd.R_keptB (mine9_R HO_320001.out (by decide)) hkp (fun k_ hk_ hs_ => hk_ hs_)) (fun k_ hk_ => trivial));have n3_ := Aside0.mk (blk_kept (by exact kP BK305.out) hkp (fun hs_ => mine9_block hs_ BK305.out (by decide)));have n4_ := Aside0.mk (blk_kept (by exact kP BK319.out) hkp (fun hs_ => mine9_block hs_ BK319.out (by decide)));have n5_ := Aside0.mk (hb);clear HO_8;clear HO_11;clear HO_320001;clear BK305;clear BK319;clear HB;have HO_8 := n0_;have HO_11 := n1_;have HO_320001 := n2_;have BK305 := n3_;have BK319 := n4_;have HB := n5_;clear n0_ n1_ n2_ n3_ n4_ n5_;(try clear hb);(try clear hkp);(try clear hy0)) | ((with_reducible refine gate_callee (f := 23) rfl ?_);refine goesL_ (some 75) rfl rfl Try.func23 (by kernel_rfl) rfl #[.slice Ao64 t334.length co64, .int .i64 1] rfl (by (try simp only [List.map_toArray, List.map_cons, List.map_nil]);first | done | (rw [show t334.length = t320.length from (Kd.S_reads' HO_11.out).1.symm] <;> rfl) | rfl | (simp only [List.length_drop, List.length_take];rfl)) ?_;(with_reducible refine (laws_heldIntSS.calls kj38 _ _ t334 1 t335 _ ?side1 ?side2 A56.out).mono ?_);(case side1 => exact cP (Kd.S_reads' HO_11.out).2.2);(case side2 => rw [show t334.length = t320.length from (Kd.S_reads' HO_11.out).1.symm];exact (Kd.S_reads' HO_11.out).2.1);rintro e w' ⟨rfl, ⟨nd, rfl⟩⟩;refine ⟨_, rfl, ?_⟩;have hnb66 := NB305_319.out;have hnc66 := NB319_305.out;have hcz67_0 : w65.cell? ⟨gb305, 0, none⟩ = some (.int .i64 a0_0) := (blk_cell BK305.out 0).trans rfl;have hcz67_1 : w65.cell? ⟨gb305, 1, none⟩ = some (.slice A0_1 l0_1.length c0_1) := (blk_cell BK305.out 1).trans rfl;have hfz67_0 := blk_frozen BK305.out 0;have hfz67_1 := blk_frozen BK305.out 1) | ((with_reducible refine gate_callee (f := 11) rfl ?_);refine goesL_ (some 83) rfl rfl Try.func11 (by kernel_rfl) rfl #[.agg #[.int .i64 a0_0, .slice A0_1 l0_1.length c0_1]] rfl mM ?_;(with_reducible refine (laws_toGraph.calls kj38 a0_0 _ _ l0_1 t336 t337 _ ?side1 ?side2 A61.out).mono ?_);(case side1 => exact cP (Kd.C_below HR0_1.out (by repeat (first | (with_reducible first | exact HB.out | apply below_alloc | apply pw_below_drewN | apply below_drew1 | refine below_set ?_ GE305.out | refine below_set ?_ GE319.out) | exact HB.out))));(case side2 => exact HC0_1.out);rintro e w68 ⟨v338, rfl, ho0, hb⟩;refine ⟨_, rfl, ?_⟩;have n0_ := Aside0.mk (Kd.N_below (by (with_reducible repeat (first | apply Kd.R_alloc | apply Kd.S_alloc | apply Kd.N_alloc | apply Kd.R_drewN | apply Kd.S_drewN | apply Kd.N_drewN | apply Kd.R_drew | apply Kd.S_drew | apply Kd.N_drew));exact HO_8.out) hb);have n1_ := Aside0.mk (Kd.S_below (by (with_reducible repeat (first | apply Kd.R_alloc | apply Kd.S_alloc | apply Kd.N_alloc | apply Kd.R_drewN | apply Kd.S_drewN | apply Kd.N_drewN | apply Kd.R_drew | apply Kd.S_drew | apply Kd.N_drew));exact HO_11.out) hb);have n2_ := Aside0.mk (Kd.R_elder' (by (with_reducible repeat (first | apply Kd.R_alloc | apply Kd.S_alloc | apply Kd.N_alloc | apply Kd.R_drewN | apply Kd.S_drewN | apply Kd.N_drewN | apply Kd.R_drew | apply Kd.S_drew | apply Kd.N_drew));exact HO_320001.out) (Kd.R_base ho0) hb);have n3_ := Aside0.mk (Kd.R_lower (Kd.R_new' ho0 (Kd.R_lt (by (with_reducible repeat (first | apply Kd.R_alloc | apply Kd.S_alloc | apply Kd.N_alloc | apply Kd.R_drewN | apply Kd.S_drewN | apply Kd.N_drewN | apply Kd.R_drew | apply Kd.S_drew | apply Kd.N_drew));exact HO_320001.out))) (below_size (by exact bB)));have n4_ := Aside0.mk (blk_below (g := gb305) (o := .cells #[.int .i64 a0_0, .slice A0_1 l0_1.length c0_1] 24 (0, 0)) (by exact kP BK305.out) hb);have n5_ := Aside0.mk (blk_below (g := gb319) (o := .cells #[.int .i64 t315, .slice Ao26 t331.length co26] 29 (0, 0)) (by exact kP BK319.out) hb);have n6_ := Aside0.mk (below_step (by exact bB) hb);clear HO_8;clear HO_11;clear HO_320001;clear BK305;clear BK319;clear HB;have HO_8 := n0_;have HO_11 := n1_;have HO_320001 := n2_;have HO339 := n3_;have BK305 := n4_;have BK319 := n5_;have HB := n6_;clear n0_ n1_ n2_ n3_ n4_ n5_ n6_;(try clear hb);(try clear hb2);(try clear hk);(try clear hi);(try clear ho0);obtain ⟨Ao69, co69, eo69⟩ := Kd.R_slice HO339.out;subst eo69) | ((with_reducible refine gate_callee (f := 29) rfl ?_);refine goesL_ (some 86) rfl rfl Try.func29 (by kernel_rfl) rfl #[.agg #[.int .i64 t336, .slice Ao69 t337.length co69], .int .i64 a1, .int .i64 a2] rfl mM ?_;(with_reducible refine (impl_BestFirePlan.calls kj38 t336 _ _ t337 a1 a2 t340 t343 _ ?side1 ?side2 A62.out).mono ?_);(case side1 => exact cP (Kd.R_reads' HO339.out).2.2);(case side2 => exact (Kd.R_reads' HO339.out).2.1);rintro e w70 ⟨v341, rfl, ho0, hb⟩;refine ⟨_, rfl, ?_⟩;have n0_ := Aside0.mk (Kd.N_elder' (by (with_reducible repeat (first | apply Kd.R_alloc | apply Kd.S_alloc | apply Kd.N_alloc | apply Kd.R_drewN | apply Kd.S_drewN | apply Kd.N_drewN | apply Kd.R_drew | apply Kd.S_drew | apply Kd.N_drew));exact HO_8.out) (Kd.S_base ho0) hb);have n1_ := Aside0.mk (Kd.S_elder' (by (with_reducible repeat (first | apply Kd.R_alloc | apply Kd.S_alloc | apply Kd.N_alloc | apply Kd.R_drewN | apply Kd.S_drewN | apply Kd.N_drewN | apply Kd.R_drew | apply Kd.S_drew | apply Kd.N_drew));exact HO_11.out) (Kd.S_base ho0) hb);have n2_ := Aside0.mk (Kd.R_below (by (with_reducible repeat (first | apply Kd.R_alloc | apply Kd.S_alloc | apply Kd.N_alloc | apply Kd.R_drewN | apply Kd.S_drewN | apply Kd.N_drewN | apply Kd.R_drew | apply Kd.S_drew | apply Kd.N_drew));exact HO_320001.out) hb);have n3_ := Aside0.mk (Kd.R_below (by (with_reducible repeat (first | apply Kd.R_alloc | apply Kd.S_alloc | apply Kd.N_alloc | apply Kd.R_drewN | apply Kd.S_drewN | apply Kd.N_drewN | apply Kd.R_drew | apply Kd.S_drew | apply Kd.N_drew));exact HO339.out) hb);have n4_ := Aside0.mk (Kd.S_lower (Kd.S_new' (Kd.S_new' ho0 (Kd.N_lt (by (with_reducible repeat (first | apply Kd.R_alloc | apply Kd.S_alloc | apply Kd.N_alloc | apply Kd.R_drewN | apply Kd.S_drewN | apply Kd.N_drewN | apply Kd.R_drew | apply Kd.S_drew | apply Kd.N_drew));exact HO_8.out))) (Kd.S_lt (by (with_reducible repeat (first | apply Kd.R_alloc | apply Kd.S_alloc | apply Kd.N_alloc | apply Kd.R_drewN | apply Kd.S_drewN | apply Kd.N_drewN | apply Kd.R_drew | apply Kd.S_drew | apply Kd.N_drew));exact HO_11.out))) (below_size (by exact bB)));have n5_ := Aside0.mk (blk_below (g := gb305) (o := .cells #[.int .i64 a0_0, .slice A0_1 l0_1.length c0_1] 24 (0, 0)) (by exact kP BK305.out) hb);have n6_ := Aside0.mk (blk_below (g := gb319) (o := .cells #[.int .i64 t315, .slice Ao26 t331.length co26] 29 (0, 0)) (by exact kP BK319.out) hb);have n7_ := Aside0.mk (below_step (by exact bB) hb);clear HO_8;clear HO_11;clear HO_320001;clear HO339;clear BK305;clear BK319;clear HB;have HO_8 := n0_;have HO_11 := n1_;have HO_320001 := n2_;have HO339 := n3_;have HO342 := n4_;have BK305 := n5_;have BK319 := n6_;have HB := n7_;clear n0_ n1_ n2_ n3_ n4_ n5_ n6_ n7_;(try clear hb);(try clear hb2);(try clear hk);(try clear hi);(try clear ho0)))
           (try simp only [Act.put, List.setIfInBounds_toArray, List.set_cons_zero, List.set_cons_succ])
           go_cut [97] (fun v97 wc => ∃ (kq : Nat) (x97_62 : Bool), v97 = .bool x97_62 ∧ Aside0 (laws_FnExactBestFirePlan.j2 kq t334 t333 x97_62 = some r) ∧ Aside0 (kq ≤ kj38) ∧ Aside0 (Kd.S (Kd.slice 3 (Kd.int .i64)) 25 wc w.heap.size (fun k_ => True) (.slice Ao64 t320.length co64) t334) ∧ Aside0 (Kd.R k80 80 wc w.heap.size (fun _ => True) (.slice Ao26 t331.length co26) t331) ∧ Aside0 (wc.heap[gb305]? = some (.cells #[.int .i64 a0_0, (.slice A0_1 l0_1.length c0_1)] 24 (0, 0))) ∧ Aside0 (wc.heap[gb319]? = some (.cells #[.int .i64 t315, (.slice Ao26 t331.length co26)] 29 (0, 0))) ∧ Aside0 (Below w.heap.size w wc))
           case first =>
            have H := HC63.out
            clear HC63
            replace H := Option.bind_eq_some_iff.mp H
            obtain ⟨t344, A710, H⟩ := H
            replace H : (if t344 = true then (laws_FnExactBestFirePlan.j2 kj38 t334 t333 (t343 != t314)) else (laws_FnExactBestFirePlan.j2 kj38 t334 t333 true)) = some r := H
            have A71 := Aside0.mk A710
            clear A710
            by_cases c72 : t344 = true
            ·subst c72
             have H1 : (laws_FnExactBestFirePlan.j2 kj38 t334 t333 (t343 != t314)) = some r := by rw [if_pos rfl] at H;exact H
             clear H
             have H := H1
             clear H1
             have H' := Aside0.mk H
             clear H
             obtain ⟨Ao73, co73, eo73⟩ := Kd.S_slice HO342.out
             subst eo73
             obtain ⟨Ao74, co74, eo74⟩ := Kd.N_slice HO_8.out
             subst eo74
             go_wp2_with (first | ((with_reducible refine gate_callee (f := 20) rfl ?_);refine goesL_ (some 91) rfl rfl Try.func20 (by kernel_rfl) rfl #[.slice Ao73 t340.length co73, .slice Ao74 t311.length co74] rfl mM ?_;(with_reducible refine (laws_eqIntSS.calls kj38 _ _ t340 _ _ t311 true _ ?side1 ?side2 ?side3 ?side4 A71.out).mono ?_);(case side1 => exact cP (Kd.S_reads' HO342.out).2.2);(case side2 => exact (Kd.S_reads' HO342.out).2.1);(case side3 => exact cP (Kd.N_reads' HO_8.out).2.2);(case side4 => exact (Kd.N_reads' HO_8.out).2.1);rintro e w' ⟨rfl, ⟨nd, rfl⟩⟩;refine ⟨_, rfl, ?_⟩))
             go_meet
             case rel => exact ⟨_, ((t343 != t314)), (by first | rfl | (simp;done) | (simp [*];done)), H', ⟨by have := HJ12.out;have := HJ38.out;first | omega | exact Nat.le_refl _⟩, ⟨by (try simp only [hl320001_38]);(with_reducible repeat (first | apply Kd.R_alloc | apply Kd.S_alloc | apply Kd.N_alloc | apply Kd.R_drewN | apply Kd.S_drewN | apply Kd.N_drewN | apply Kd.R_drew | apply Kd.S_drew | apply Kd.N_drew));exact Kd.S_mono HO_11.out (fun _ hk => by first | exact hk | exact hk.2 | exact hk.1 | exact hk.2.1 | exact ⟨hk.1, hk.2.1⟩ | trivial)⟩, ⟨by (try simp only [hl320001_38]);(with_reducible repeat (first | apply Kd.R_alloc | apply Kd.S_alloc | apply Kd.N_alloc | apply Kd.R_drewN | apply Kd.S_drewN | apply Kd.N_drewN | apply Kd.R_drew | apply Kd.S_drew | apply Kd.N_drew));exact Kd.R_mono HO_320001.out (fun _ hk => trivial)⟩, ⟨by (try simp only [hl320001_38]);exact kP BK305.out⟩, ⟨by (try simp only [hl320001_38]);exact kP BK319.out⟩, ⟨by exact bB⟩⟩
            ·replace c72 := Bool.eq_false_iff.mpr c72
             subst c72
             have H1 : (laws_FnExactBestFirePlan.j2 kj38 t334 t333 true) = some r := by rw [if_neg (show ¬ (false = true) by decide)] at H;exact H
             clear H
             have H := H1
             clear H1
             have H' := Aside0.mk H
             clear H
             obtain ⟨Ao75, co75, eo75⟩ := Kd.S_slice HO342.out
             subst eo75
             obtain ⟨Ao76, co76, eo76⟩ := Kd.N_slice HO_8.out
             subst eo76
             go_wp2_with (first | ((with_reducible refine gate_callee (f := 20) rfl ?_);refine goesL_ (some 91) rfl rfl Try.func20 (by kernel_rfl) rfl #[.slice Ao75 t340.length co75, .slice Ao76 t311.length co76] rfl mM ?_;(with_reducible refine (laws_eqIntSS.calls kj38 _ _ t340 _ _ t311 false _ ?side1 ?side2 ?side3 ?side4 A71.out).mono ?_);(case side1 => exact cP (Kd.S_reads' HO342.out).2.2);(case side2 => exact (Kd.S_reads' HO342.out).2.1);(case side3 => exact cP (Kd.N_reads' HO_8.out).2.2);(case side4 => exact (Kd.N_reads' HO_8.out).2.1);rintro e w' ⟨rfl, ⟨nd, rfl⟩⟩;refine ⟨_, rfl, ?_⟩))
             go_meet
             case rel => exact ⟨_, (true), (by first | rfl | (simp;done) | (simp [*];done)), H', ⟨by have := HJ12.out;have := HJ38.out;first | omega | exact Nat.le_refl _⟩, ⟨by (try simp only [hl320001_38]);(with_reducible repeat (first | apply Kd.R_alloc | apply Kd.S_alloc | apply Kd.N_alloc | apply Kd.R_drewN | apply Kd.S_drewN | apply Kd.N_drewN | apply Kd.R_drew | apply Kd.S_drew | apply Kd.N_drew));exact Kd.S_mono HO_11.out (fun _ hk => by first | exact hk | exact hk.2 | exact hk.1 | exact hk.2.1 | exact ⟨hk.1, hk.2.1⟩ | trivial)⟩, ⟨by (try simp only [hl320001_38]);(with_reducible repeat (first | apply Kd.R_alloc | apply Kd.S_alloc | apply Kd.N_alloc | apply Kd.R_drewN | apply Kd.S_drewN | apply Kd.N_drewN | apply Kd.R_drew | apply Kd.S_drew | apply Kd.N_drew));exact Kd.R_mono HO_320001.out (fun _ hk => trivial)⟩, ⟨by (try simp only [hl320001_38]);exact kP BK305.out⟩, ⟨by (try simp only [hl320001_38]);exact kP BK319.out⟩, ⟨by exact bB⟩⟩
           case rest =>
            clear HC63
            try clear c1
            try clear c2
            try clear p2
            try clear c3
            try clear c4
            try clear c5
            try clear c5b0
            try clear c6
            try clear c7
            try clear c9
            try clear c11
            try clear c14
            try clear c20
            try clear c21
            try clear c22
            try clear c23
            try clear c24
            try clear c28
            try clear c29
            try clear c34
            try clear c37
            try clear c44
            try clear c47
            try clear c47b0
            try clear c49
            try clear c54
            try clear c57
            try clear c57b0
            try clear c60
            try clear c60b0
            try clear c60b1
            try clear c66
            try clear c72
            try clear hcz15_0
            try clear hcz15_1
            try clear hcz17_0
            try clear hcz17_1
            try clear hcz21_0
            try clear hcz21_1
            try clear hcz25_0
            try clear hcz25_1
            try clear hcz45_0
            try clear hcz45_1
            try clear hcz67_0
            try clear hcz67_1
            try clear hcz7_0
            try clear hcz7_1
            try clear hfz15_0
            try clear hfz15_1
            try clear hfz17_0
            try clear hfz17_1
            try clear hfz21_0
            try clear hfz21_1
            try clear hfz25_0
            try clear hfz25_1
            try clear hfz45_0
            try clear hfz45_1
            try clear hfz67_0
            try clear hfz67_1
            try clear hfz7_0
            try clear hfz7_1
            try clear p2
            obtain ⟨kq, x97_62, rfl, HA, HJ62, HO_11, HO_320001, BK305, BK319, HB⟩ := hcut
            have hl11_62 := (Kd.S_reads' HO_11.out).1
            rw [hl11_62] at HO_11
            (try simp only [hl11_62])
            (try simp only [hl11_62] at BK305)
            (try simp only [hl11_62] at BK319)
            (try simp only [hl11_62] at HO_320001)
            cases kq with
            | zero => exact absurd HA.out (by simp [laws_FnExactBestFirePlan.j2])
            | succ kj62 =>
             have H := HA.out
             clear HA
             simp only [laws_FnExactBestFirePlan.j2] at H
             by_cases c77 : x97_62 = true
             ·subst c77
              have H1 : (some false) = some r := by rw [if_pos rfl] at H;exact H
              clear H
              have H := H1
              clear H1
              obtain rfl := Option.some.inj H
              go_wp2
              go_ret
              exact ⟨by first | rfl | (simp [errW_none, errW_some] <;> rfl) | (simp [*, errW_none, errW_some] <;> rfl), by exact bB⟩
             ·replace c77 := Bool.eq_false_iff.mpr c77
              subst c77
              have H1 : ((laws_heldIntSS.f kj62 t334 1).bind fun t345 => (if t345 < 0 then (some false) else (if t345 = t333 then (some true) else (some false)))) = some r := by rw [if_neg (show ¬ (false = true) by decide)] at H;exact H
              clear H
              have H := H1
              clear H1
              replace H := Option.bind_eq_some_iff.mp H
              obtain ⟨t345, A780, H⟩ := H
              replace H : (if t345 < 0 then (some false) else (if t345 = t333 then (some true) else (some false))) = some r := H
              have A78 := Aside0.mk A780
              clear A780
              by_cases c79 : t345 < 0
              ·rw [if_pos c79] at H
               have c79b0 : decide (t345 < 0) = true := decide_eq_true c79
               clear c79
               obtain rfl := Option.some.inj H
               go_wp2_with (first | ((with_reducible refine gate_callee (f := 23) rfl ?_);refine goesL_ (some 100) rfl rfl Try.func23 (by kernel_rfl) rfl #[.slice Ao64 t334.length co64, .int .i64 1] rfl mM ?_;(with_reducible refine (laws_heldIntSS.calls kj62 _ _ t334 1 t345 _ ?side1 ?side2 A78.out).mono ?_);(case side1 => exact cP (Kd.S_reads' HO_11.out).2.2);(case side2 => exact (Kd.S_reads' HO_11.out).2.1);rintro e w' ⟨rfl, ⟨nd, rfl⟩⟩;refine ⟨_, rfl, ?_⟩))
               go_ret
               exact ⟨by first | rfl | (simp [errW_none, errW_some] <;> rfl) | (simp [*, errW_none, errW_some] <;> rfl), by exact bB⟩
              ·rw [if_neg c79] at H
               have c79b0 : decide (t345 < 0) = false := decide_eq_false c79
               clear c79
               by_cases c80 : t345 = t333
               ·rw [if_pos c80] at H
                have c80b0 : (t345 == t333) = true := beq_iff_eq.mpr c80
                have c80b1 : (t345 != t333) = false := bne_eq_false_iff_eq.mpr c80
                clear c80
                obtain rfl := Option.some.inj H
                go_wp2_with (first | ((with_reducible refine gate_callee (f := 23) rfl ?_);refine goesL_ (some 100) rfl rfl Try.func23 (by kernel_rfl) rfl #[.slice Ao64 t334.length co64, .int .i64 1] rfl mM ?_;(with_reducible refine (laws_heldIntSS.calls kj62 _ _ t334 1 t345 _ ?side1 ?side2 A78.out).mono ?_);(case side1 => exact cP (Kd.S_reads' HO_11.out).2.2);(case side2 => exact (Kd.S_reads' HO_11.out).2.1);rintro e w' ⟨rfl, ⟨nd, rfl⟩⟩;refine ⟨_, rfl, ?_⟩))
                go_ret
                exact ⟨by first | rfl | (simp [errW_none, errW_some] <;> rfl) | (simp [*, errW_none, errW_some] <;> rfl), by exact bB⟩
               ·rw [if_neg c80] at H
                have c80b0 : (t345 == t333) = false := beq_eq_false_iff_ne.mpr c80
                have c80b1 : (t345 != t333) = true := bne_iff_ne.mpr c80
                obtain rfl := Option.some.inj H
                go_wp2_with (first | ((with_reducible refine gate_callee (f := 23) rfl ?_);refine goesL_ (some 100) rfl rfl Try.func23 (by kernel_rfl) rfl #[.slice Ao64 t334.length co64, .int .i64 1] rfl mM ?_;(with_reducible refine (laws_heldIntSS.calls kj62 _ _ t334 1 t345 _ ?side1 ?side2 A78.out).mono ?_);(case side1 => exact cP (Kd.S_reads' HO_11.out).2.2);(case side2 => exact (Kd.S_reads' HO_11.out).2.1);rintro e w' ⟨rfl, ⟨nd, rfl⟩⟩;refine ⟨_, rfl, ?_⟩))
                go_ret
                exact ⟨by first | rfl | (simp [errW_none, errW_some] <;> rfl) | (simp [*, errW_none, errW_some] <;> rfl), by exact bB⟩
          ·rw [if_neg c60] at H
           have c60b0 : (t335 == t333) = false := beq_eq_false_iff_ne.mpr c60
           have c60b1 : (t335 != t333) = true := bne_iff_ne.mpr c60
           obtain rfl := Option.some.inj H
           obtain ⟨Ao81, co81, eo81⟩ := Kd.S_slice HO_11.out
           subst eo81
           go_wp2_with (first | ((with_reducible refine gate_callee (f := 22) rfl ?_);refine goesL_ (some 72) rfl rfl Try.func22 (by kernel_rfl) rfl #[.slice Ao81 t320.length co81, .int .i64 1] rfl mM ?_;(with_reducible refine (laws_markIntSS.calls kj38 ?P9a2 (.slice Ao81 t320.length co81) t320 1 t333 t334 w _ ?side1 ?side2 A55.out).mono ?_);(case side1 => exact bB);(case side2 => exact mine9 HO_11.out);rintro e w82 ⟨rfl, hy0, hb, hkp⟩;refine ⟨_, rfl, ?_⟩;have n0_ := Aside0.mk (Kd.N_mono (ok' := fun k_ => ¬ P9_ k_) (Kd.N_keptB HO_8.out hkp (fun k_ hk_ hs_ => hk_ hs_.1)) (fun k_ hk_ => hk_.1));have n1_ := Aside0.mk (Kd.S_mono (ok' := fun k_ => True) hy0 (fun _ _ => trivial));have n2_ := Aside0.mk (Kd.R_mono (ok' := fun k_ => True) (Kd.R_keptB (mine9_R HO_320001.out (by decide)) hkp (fun k_ hk_ hs_ => hk_ hs_)) (fun k_ hk_ => trivial));have n3_ := Aside0.mk (blk_kept (by exact kP BK305.out) hkp (fun hs_ => mine9_block hs_ BK305.out (by decide)));have n4_ := Aside0.mk (blk_kept (by exact kP BK319.out) hkp (fun hs_ => mine9_block hs_ BK319.out (by decide)));have n5_ := Aside0.mk (hb);clear HO_8;clear HO_11;clear HO_320001;clear BK305;clear BK319;clear HB;have HO_8 := n0_;have HO_11 := n1_;have HO_320001 := n2_;have BK305 := n3_;have BK319 := n4_;have HB := n5_;clear n0_ n1_ n2_ n3_ n4_ n5_;(try clear hb);(try clear hkp);(try clear hy0)) | ((with_reducible refine gate_callee (f := 23) rfl ?_);refine goesL_ (some 75) rfl rfl Try.func23 (by kernel_rfl) rfl #[.slice Ao81 t334.length co81, .int .i64 1] rfl (by (try simp only [List.map_toArray, List.map_cons, List.map_nil]);first | done | (rw [show t334.length = t320.length from (Kd.S_reads' HO_11.out).1.symm] <;> rfl) | rfl | (simp only [List.length_drop, List.length_take];rfl)) ?_;(with_reducible refine (laws_heldIntSS.calls kj38 _ _ t334 1 t335 _ ?side1 ?side2 A56.out).mono ?_);(case side1 => exact cP (Kd.S_reads' HO_11.out).2.2);(case side2 => rw [show t334.length = t320.length from (Kd.S_reads' HO_11.out).1.symm];exact (Kd.S_reads' HO_11.out).2.1);rintro e w' ⟨rfl, ⟨nd, rfl⟩⟩;refine ⟨_, rfl, ?_⟩))
           go_ret
           exact ⟨by first | rfl | (simp [errW_none, errW_some] <;> rfl) | (simp [*, errW_none, errW_some] <;> rfl), by exact bB⟩
     ·replace c37 := Bool.eq_false_iff.mpr c37
      subst c37
      have H1 : (some false) = some r := by rw [if_neg (show ¬ (false = true) by decide)] at H;exact H
      clear H
      have H := H1
      clear H1
      obtain rfl := Option.some.inj H
      try go_wp2
      have n0_ := Aside0.mk (Kd.N_drew HO_8.out)
      have n1_ := Aside0.mk (Kd.S_drew HO_11.out)
      have n2_ := Aside0.mk (Kd.R_drew HO_320001.out)
      have n3_ := Aside0.mk (blk_drew BK305.out)
      have n4_ := Aside0.mk (blk_drew BK319.out)
      have n5_ := Aside0.mk (below_drew1 HB.out)
      clear HO_8
      clear HO_11
      clear HO_320001
      clear BK305
      clear BK319
      clear HB
      have HO_8 := n0_
      have HO_11 := n1_
      have HO_320001 := n2_
      have BK305 := n3_
      have BK319 := n4_
      have HB := n5_
      clear n0_ n1_ n2_ n3_ n4_ n5_
      refine start_ (n := 5) (S := fun w' => w'.cell? ⟨gb319, 0, none⟩ = some (.int .i64 t315) ∧ w'.cell? ⟨gb319, 1, none⟩ = some (.slice Ao26 t316.length co26) ∧ w'.cell? ⟨gb305, 0, none⟩ = some (.int .i64 a0_0) ∧ w'.cell? ⟨gb305, 1, none⟩ = some (.slice A0_1 l0_1.length c0_1)) (ds := []) #[false,false,false,false,false] (by kernel_rfl) rfl rfl ⟨(blk_cell BK319.out 0).trans rfl, (blk_cell BK319.out 1).trans rfl, (blk_cell BK305.out 0).trans rfl, (blk_cell BK305.out 1).trans rfl⟩ (fun hHeld => ?_)
      generalize wc.drew = w83 at HO_8 HO_11 HO_320001 BK305 BK319 HB hHeld ⊢
      refine take_ (i := 0) (N := some 49) (v := ?_) (a' := ?_) #[true,false,false,false,false] rfl rfl (by kernel_rfl) (fun _ _ _ h => h) (Or.inl ⟨by rfl, ?_⟩) hHeld ?_ ?_
      rotate_left
      ·rintro w' ⟨s0, s1, s2, s3⟩
       go_simp
       with_reducible rfl
      rotate_left
      ·simp only [Act.put, List.setIfInBounds_toArray, List.set_cons_zero, List.set_cons_succ, i64_w, i32_w]
       rfl
      refine take_ (i := 1) (N := some 50) (v := ?_) (a' := ?_) #[true,true,false,false,false] rfl rfl (by kernel_rfl) (fun _ _ _ h => h) (Or.inl ⟨by rfl, ?_⟩) hHeld ?_ ?_
      rotate_left
      ·rintro w' ⟨s0, s1, s2, s3⟩
       go_simp
       with_reducible rfl
      rotate_left
      ·simp only [Act.put, List.setIfInBounds_toArray, List.set_cons_zero, List.set_cons_succ, i64_w, i32_w]
       rfl
      refine one_ (i := 2) (N := some 51) #[true,true,true,false,false] rfl rfl (by kernel_rfl) (by decide) (fun K hK => ?_)
      refine goes_ Try.func11 (by kernel_rfl) rfl #[.agg #[.int .i64 a0_0, .slice A0_1 l0_1.length c0_1]] (by rfl) rfl rfl mM ?_
      with_reducible refine (laws_toGraph.calls kj12 a0_0 _ _ l0_1 t325 t326 _ ?side1 ?side2 A35.out).mono ?_
      (case side1 => exact cP (Kd.C_below HR0_1.out HB.out))
      (case side2 => exact HC0_1.out)
      rintro e w84 ⟨v327, rfl, ho0, hb⟩
      refine ⟨_, rfl, ?_⟩
      have n0_ := Aside0.mk (Kd.N_below (by (with_reducible repeat (first | apply Kd.R_alloc | apply Kd.S_alloc | apply Kd.N_alloc | apply Kd.R_drewN | apply Kd.S_drewN | apply Kd.N_drewN | apply Kd.R_drew | apply Kd.S_drew | apply Kd.N_drew));exact HO_8.out) hb)
      have n1_ := Aside0.mk (Kd.S_below (by (with_reducible repeat (first | apply Kd.R_alloc | apply Kd.S_alloc | apply Kd.N_alloc | apply Kd.R_drewN | apply Kd.S_drewN | apply Kd.N_drewN | apply Kd.R_drew | apply Kd.S_drew | apply Kd.N_drew));exact HO_11.out) hb)
      have n2_ := Aside0.mk (Kd.R_elder' (by (with_reducible repeat (first | apply Kd.R_alloc | apply Kd.S_alloc | apply Kd.N_alloc | apply Kd.R_drewN | apply Kd.S_drewN | apply Kd.N_drewN | apply Kd.R_drew | apply Kd.S_drew | apply Kd.N_drew));exact HO_320001.out) (Kd.R_base ho0) hb)
      have n3_ := Aside0.mk (Kd.R_lower (Kd.R_new' ho0 (Kd.R_lt (by (with_reducible repeat (first | apply Kd.R_alloc | apply Kd.S_alloc | apply Kd.N_alloc | apply Kd.R_drewN | apply Kd.S_drewN | apply Kd.N_drewN | apply Kd.R_drew | apply Kd.S_drew | apply Kd.N_drew));exact HO_320001.out))) (below_size (by exact bB)))
      have n4_ := Aside0.mk (blk_below (g := gb305) (o := .cells #[.int .i64 a0_0, .slice A0_1 l0_1.length c0_1] 24 (0, 0)) (by exact kP BK305.out) hb)
      have n5_ := Aside0.mk (blk_below (g := gb319) (o := .cells #[.int .i64 t315, .slice Ao26 t316.length co26] 29 (0, 0)) (by exact kP BK319.out) hb)
      have n6_ := Aside0.mk (below_step (by exact bB) hb)
      clear HO_8
      clear HO_11
      clear HO_320001
      clear BK305
      clear BK319
      clear HB
      have HO_8 := n0_
      have HO_11 := n1_
      have HO_320001 := n2_
      have HO328 := n3_
      have BK305 := n4_
      have BK319 := n5_
      have HB := n6_
      clear n0_ n1_ n2_ n3_ n4_ n5_ n6_
      (try clear hb)
      (try clear hb2)
      (try clear hk)
      (try clear hi)
      (try clear ho0)
      obtain ⟨Ao85, co85, eo85⟩ := Kd.R_slice HO328.out
      (first | subst eo85 | (injection eo85 with f1_ f2_ f3_;have f4_ := f1_.symm;have f5_ := f3_.symm;clear f1_ f2_ f3_;subst f4_;subst f5_))
      refine hK.out _ _ ⟨(blk_cell BK319.out 0).trans rfl, (blk_cell BK319.out 1).trans rfl, (blk_cell BK305.out 0).trans rfl, (blk_cell BK305.out 1).trans rfl⟩ (fun hHeld => ?_)
      clear hK K
      refine norm_ (a' := ?_) ?_ ?_
      rotate_left
      ·show Act.put _ (some 51) _ = _
       simp only [Act.put, List.setIfInBounds_toArray, List.set_cons_zero, List.set_cons_succ, i64_w, i32_w]
       rfl
      refine one_ (i := 3) (N := some 52) #[true,true,true,true,false] rfl rfl (by kernel_rfl) (by decide) (fun K hK => ?_)
      refine goes_ Try.func14 (by kernel_rfl) rfl #[.agg #[.int .i64 t315, .slice Ao26 t316.length co26], .agg #[.int .i64 t325, .slice Ao85 t326.length co85]] (by rfl) rfl rfl mM ?_
      with_reducible refine (laws_eqGraph.calls kj12 t315 _ _ t316 t325 _ _ t326 false _ ?side1 ?side2 ?side3 ?side4 A36.out).mono ?_
      (case side1 => exact cP (Kd.R_reads' HO_320001.out).2.2)
      (case side2 => exact (Kd.R_reads' HO_320001.out).2.1)
      (case side3 => exact cP (Kd.R_reads' HO328.out).2.2)
      (case side4 => exact (Kd.R_reads' HO328.out).2.1)
      rintro e w86 ⟨rfl, hb⟩
      refine ⟨_, rfl, ?_⟩
      have n0_ := Aside0.mk (Kd.N_below (by (with_reducible repeat (first | apply Kd.R_alloc | apply Kd.S_alloc | apply Kd.N_alloc | apply Kd.R_drewN | apply Kd.S_drewN | apply Kd.N_drewN | apply Kd.R_drew | apply Kd.S_drew | apply Kd.N_drew));exact HO_8.out) hb)
      have n1_ := Aside0.mk (Kd.S_below (by (with_reducible repeat (first | apply Kd.R_alloc | apply Kd.S_alloc | apply Kd.N_alloc | apply Kd.R_drewN | apply Kd.S_drewN | apply Kd.N_drewN | apply Kd.R_drew | apply Kd.S_drew | apply Kd.N_drew));exact HO_11.out) hb)
      have n2_ := Aside0.mk (Kd.R_below (by (with_reducible repeat (first | apply Kd.R_alloc | apply Kd.S_alloc | apply Kd.N_alloc | apply Kd.R_drewN | apply Kd.S_drewN | apply Kd.N_drewN | apply Kd.R_drew | apply Kd.S_drew | apply Kd.N_drew));exact HO_320001.out) hb)
      have n3_ := Aside0.mk (Kd.R_below (by (with_reducible repeat (first | apply Kd.R_alloc | apply Kd.S_alloc | apply Kd.N_alloc | apply Kd.R_drewN | apply Kd.S_drewN | apply Kd.N_drewN | apply Kd.R_drew | apply Kd.S_drew | apply Kd.N_drew));exact HO328.out) hb)
      have n4_ := Aside0.mk (blk_below (g := gb305) (o := .cells #[.int .i64 a0_0, .slice A0_1 l0_1.length c0_1] 24 (0, 0)) (by exact kP BK305.out) hb)
      have n5_ := Aside0.mk (blk_below (g := gb319) (o := .cells #[.int .i64 t315, .slice Ao26 t316.length co26] 29 (0, 0)) (by exact kP BK319.out) hb)
      have n6_ := Aside0.mk (below_step (by exact bB) hb)
      clear HO_8
      clear HO_11
      clear HO_320001
      clear HO328
      clear BK305
      clear BK319
      clear HB
      have HO_8 := n0_
      have HO_11 := n1_
      have HO_320001 := n2_
      have HO328 := n3_
      have BK305 := n4_
      have BK319 := n5_
      have HB := n6_
      clear n0_ n1_ n2_ n3_ n4_ n5_ n6_
      (try clear hb)
      (try clear hb2)
      (try clear hk)
      (try clear hi)
      refine hK.out _ _ ⟨(blk_cell BK319.out 0).trans rfl, (blk_cell BK319.out 1).trans rfl, (blk_cell BK305.out 0).trans rfl, (blk_cell BK305.out 1).trans rfl⟩ (fun hHeld => ?_)
      clear hK K
      refine norm_ (a' := ?_) ?_ ?_
      rotate_left
      ·show Act.put _ (some 52) _ = _
       simp only [Act.put, List.setIfInBounds_toArray, List.set_cons_zero, List.set_cons_succ, i64_w, i32_w]
       rfl
      refine pure_ (i := 4) (N := some 53) (v := ?_) (a' := ?_) #[true,true,true,true,true] rfl rfl (by kernel_rfl) (fun _ _ _ h => h) (Or.inl ⟨by rfl, ?_⟩) ?_ ?_
      rotate_left
      ·intro w'
       go_simp
       with_reducible rfl
      rotate_left
      ·simp only [Act.put, List.setIfInBounds_toArray, List.set_cons_zero, List.set_cons_succ, i64_w, i32_w]
       rfl
      refine done_ (by kernel_rfl) ?_
      try go_wp2
      go_ret
      exact ⟨by first | rfl | (simp [errW_none, errW_some] <;> rfl) | (simp [*, errW_none, errW_some] <;> rfl), by exact bB⟩


end Go.Proofs.Ytaddgielnfhhpaa.QBestFirePlan
