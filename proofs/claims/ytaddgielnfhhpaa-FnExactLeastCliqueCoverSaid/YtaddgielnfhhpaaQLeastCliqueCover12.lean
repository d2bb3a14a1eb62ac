import Derived.Test.YtaddgielnfhhpaaQLeastCliqueCover0
import Derived.Test.YtaddgielnfhhpaaQLeastCliqueCover1
import Derived.Test.YtaddgielnfhhpaaQLeastCliqueCover6
import Derived.Test.YtaddgielnfhhpaaQLeastCliqueCover10
import Derived.Test.YtaddgielnfhhpaaQLeastCliqueCover11
namespace Go.Proofs.Ytaddgielnfhhpaa.QLeastCliqueCover
open Go.RowKit Go.Proofs.YtaddgielnfhhpaaW.PrintWords Go.Proofs.YtaddgielnfhhpaaW.PrintLast Go.Proofs.YtaddgielnfhhpaaW.PrintMore
attribute [local go_sem] max2_int min2_int max_two min_two max_three min_three max_four min_four   -- for this text's walks alone
set_option linter.unusedVariables false
set_option linter.unusedSimpArgs false
/-! ### laws_FnExactLeastCliqueCover: function 5 -/
/-- Blocks of a row of rows: beyond some place, and of its own types. -/
def Mine9 (P : Nat → Prop) (W : World) (base : Nat) (E : List Nat) (k : Nat) : Prop := P k ∧ base ≤ k ∧ k < W.heap.size ∧ ∃ q, q ∈ E ∧ ∃ cells, W.heap[k]? = some (.cells cells q (0, 0))
theorem mine9 {α : Type} {d : Kd α} {e base : Nat} {ok : Nat → Prop} {w : World} {v : Value} {xs : List α} (h : Kd.S d e w base ok v xs) : Kd.S d e w base (Mine9 ok w base (e :: d.E)) v xs := Kd.S_bound h
theorem mine9_block {P : Nat → Prop} {W : World} {base g t : Nat} {E : List Nat} {cells : Array Value} (h : Mine9 P W base E g) (hb : W.heap[g]? = some (.cells cells t (0, 0))) (ht : ¬ t ∈ E) : False := by
 obtain ⟨_, _, _, q, hq, c, hc⟩ := h
 rw [hc] at hb
 simp only [Option.some.injEq, Obj.cells.injEq] at hb
 exact ht (hb.2.1 ▸ hq)
theorem mine9_R {α : Type} {d : Kd α} {e b base : Nat} {ok P : Nat → Prop} {W : World} {E : List Nat} {v : Value} {xs : List α} (h : Kd.R d e W b ok v xs) (hE : ∀ q ∈ e :: d.E, ¬ q ∈ E) : Kd.R d e W b (fun k => ¬ Mine9 P W base E k) v xs :=
 Kd.R_mono (Kd.R_bound h) (fun k hk hM => by obtain ⟨_, _, _, q, hq, c, hc⟩ := hk;exact mine9_block hM hc (hE q hq))
theorem mine9_old {W W1 : World} (hb : Below W.heap.size W W1) : ∃ P9_ : Nat → Prop, ∀ k, P9_ k ↔ W.heap.size ≤ k := ⟨_, fun _ => Iff.rfl⟩
mutual
def laws_FnExactLeastCliqueCover.j0 : Nat → List (List Int) → Bool → List (List Int) → Bool → Bool → Int → List (S80) → Int → List (S80) → Option (Bool)
 | 0, _, _, _, _, _, _, _, _, _ => none
 | k + 1, x4, x5, x7, x8, x40, x252000, x252001, x266000, x266001 => if x40 = true then (some false) else ((laws_toGraph.f k x252000 x252001).bind fun bt271 => ((laws_eqGraph.f k x266000 x266001 bt271.1 bt271.2).bind fun t275 => (if t275 = true then ((laws_markGraph.f x266000 x266001 1).bind fun bt276 => (if bt276.1 < 0 then (laws_FnExactLeastCliqueCover.j1 k x4 x5 x7 true x252000 x252001) else ((laws_eqIntSS.f k x7 x4).bind fun t278 => (if t278 = true then (laws_FnExactLeastCliqueCover.j1 k x4 x5 x7 (x8 != x5) x252000 x252001) else (laws_FnExactLeastCliqueCover.j1 k x4 x5 x7 true x252000 x252001))))) else (some false))))
def laws_FnExactLeastCliqueCover.j1 : Nat → List (List Int) → Bool → List (List Int) → Bool → Int → List (S80) → Option (Bool)
 | 0, _, _, _, _, _, _ => none
 | k + 1, x4, x5, x7, x61, x252000, x252001 => if x61 = true then (some false) else ((laws_markIntSS.f k x7 1).bind fun bt279 => ((laws_heldIntSS.f k bt279.2 1).bind fun t281 => (if t281 < 0 then (some false) else (if t281 = bt279.1 then ((laws_toGraph.f k x252000 x252001).bind fun bt282 => ((impl_LeastCliqueCover.f k bt282.1 bt282.2).bind fun bt286 => ((laws_eqIntSS.f k bt286.1 x4).bind fun t290 => (if t290 = true then (laws_FnExactLeastCliqueCover.j2 k bt279.2 bt279.1 (bt286.2 != x5)) else (laws_FnExactLeastCliqueCover.j2 k bt279.2 bt279.1 true))))) else (some false)))))
def laws_FnExactLeastCliqueCover.j2 : Nat → List (List Int) → Int → Bool → Option (Bool)
 | 0, _, _, _ => none
 | k + 1, x7, x10, x87 => if x87 = true then (some false) else ((laws_heldIntSS.f k x7 1).bind fun t291 => (if t291 < 0 then (some false) else (if t291 = x10 then (some true) else (some false))))
end
def laws_FnExactLeastCliqueCover.f (k : Nat) (a0_0 : Int) (l0_1 : List (S80)) : Option (Bool) := (laws_szGraph.f a0_0 l0_1 1048576).bind fun t252 => (if t252 < 0 then (some true) else ((laws_toGraph.f k a0_0 l0_1).bind fun bt253 => ((spec_LeastCliqueCover.f k bt253.1 bt253.2).bind fun bt257 => ((laws_toGraph.f k a0_0 l0_1).bind fun bt261 => ((impl_LeastCliqueCover.f k bt261.1 bt261.2).bind fun bt266 => ((laws_eqIntSS.f k bt266.1 bt257.1).bind fun t270 => (if t270 = true then (laws_FnExactLeastCliqueCover.j0 k bt257.1 bt257.2 bt266.1 bt266.2 (bt266.2 != bt257.2) a0_0 l0_1 bt261.1 bt261.2) else (laws_FnExactLeastCliqueCover.j0 k bt257.1 bt257.2 bt266.1 bt266.2 true a0_0 l0_1 bt261.1 bt261.2))))))))
theorem laws_FnExactLeastCliqueCover.mono_l : ∀ k, (∀ y0 y1 y2 y3 y4 y5 y6 y7 y8, LeO (laws_FnExactLeastCliqueCover.j0 k y0 y1 y2 y3 y4 y5 y6 y7 y8) (laws_FnExactLeastCliqueCover.j0 (k + 1) y0 y1 y2 y3 y4 y5 y6 y7 y8)) ∧ (∀ y0 y1 y2 y3 y4 y5, LeO (laws_FnExactLeastCliqueCover.j1 k y0 y1 y2 y3 y4 y5) (laws_FnExactLeastCliqueCover.j1 (k + 1) y0 y1 y2 y3 y4 y5)) ∧ (∀ y0 y1 y2, LeO (laws_FnExactLeastCliqueCover.j2 k y0 y1 y2) (laws_FnExactLeastCliqueCover.j2 (k + 1) y0 y1 y2))
 | 0 => ⟨fun _ _ _ _ _ _ _ _ _ r h => by simp [laws_FnExactLeastCliqueCover.j0] at h, fun _ _ _ _ _ _ r h => by simp [laws_FnExactLeastCliqueCover.j1] at h, fun _ _ _ r h => by simp [laws_FnExactLeastCliqueCover.j2] at h⟩
 | k + 1 => by
  obtain ⟨ih0, ih1, ih2⟩ := laws_FnExactLeastCliqueCover.mono_l k
  refine ⟨?_, ?_, ?_⟩
  ·intro y0 y1 y2 y3 y4 y5 y6 y7 y8
   unfold laws_FnExactLeastCliqueCover.j0
   repeat' first
   | (with_reducible exact ih0 _ _ _ _ _ _ _ _ _)
   | (with_reducible exact ih1 _ _ _ _ _ _)
   | (with_reducible exact ih2 _ _ _)
   | (with_reducible exact impl_LeastCliqueCover.mono _ _ _)
   | (with_reducible exact laws_eqGraph.mono _ _ _ _ _)
   | (with_reducible exact laws_eqIntSS.mono _ _ _)
   | (with_reducible exact laws_heldIntSS.mono _ _ _)
   | (with_reducible exact laws_markIntSS.mono _ _ _)
   | (with_reducible exact laws_toGraph.mono _ _ _)
   | (with_reducible exact spec_LeastCliqueCover.mono _ _ _)
   | (with_reducible exact LeO.refl _)
   | (with_reducible exact LeO.none _)
   | (with_reducible refine LeO.ite ?_ ?_)
   | (with_reducible refine LeO.bind ?_ (fun _ => ?_))
   | exact ih0 _ _ _ _ _ _ _ _ _
   | exact ih1 _ _ _ _ _ _
   | exact ih2 _ _ _
   | exact impl_LeastCliqueCover.mono _ _ _
   | exact laws_eqGraph.mono _ _ _ _ _
   | exact laws_eqIntSS.mono _ _ _
   | exact laws_heldIntSS.mono _ _ _
   | exact laws_markIntSS.mono _ _ _
   | exact laws_toGraph.mono _ _ _
   | exact spec_LeastCliqueCover.mono _ _ _
   | exact LeO.none _
   | refine LeO.ite ?_ ?_
   | refine LeO.bind ?_ (fun _ => ?_)
  ·intro y0 y1 y2 y3 y4 y5
   unfold laws_FnExactLeastCliqueCover.j1
   repeat' first
   | (with_reducible exact ih0 _ _ _ _ _ _ _ _ _)
   | (with_reducible exact ih1 _ _ _ _ _ _)
   | (with_reducible exact ih2 _ _ _)
   | (with_reducible exact impl_LeastCliqueCover.mono _ _ _)
   | (with_reducible exact laws_eqGraph.mono _ _ _ _ _)
   | (with_reducible exact laws_eqIntSS.mono _ _ _)
   | (with_reducible exact laws_heldIntSS.mono _ _ _)
   | (with_reducible exact laws_markIntSS.mono _ _ _)
   | (with_reducible exact laws_toGraph.mono _ _ _)
   | (with_reducible exact spec_LeastCliqueCover.mono _ _ _)
   | (with_reducible exact LeO.refl _)
   | (with_reducible exact LeO.none _)
   | (with_reducible refine LeO.ite ?_ ?_)
   | (with_reducible refine LeO.bind ?_ (fun _ => ?_))
   | exact ih0 _ _ _ _ _ _ _ _ _
   | exact ih1 _ _ _ _ _ _
   | exact ih2 _ _ _
   | exact impl_LeastCliqueCover.mono _ _ _
   | exact laws_eqGraph.mono _ _ _ _ _
   | exact laws_eqIntSS.mono _ _ _
   | exact laws_heldIntSS.mono _ _ _
   | exact laws_markIntSS.mono _ _ _
   | exact laws_toGraph.mono _ _ _
   | exact spec_LeastCliqueCover.mono _ _ _
   | exact LeO.none _
   | refine LeO.ite ?_ ?_
   | refine LeO.bind ?_ (fun _ => ?_)
  ·intro y0 y1 y2
   unfold laws_FnExactLeastCliqueCover.j2
   repeat' first
   | (with_reducible exact ih0 _ _ _ _ _ _ _ _ _)
   | (with_reducible exact ih1 _ _ _ _ _ _)
   | (with_reducible exact ih2 _ _ _)
   | (with_reducible exact impl_LeastCliqueCover.mono _ _ _)
   | (with_reducible exact laws_eqGraph.mono _ _ _ _ _)
   | (with_reducible exact laws_eqIntSS.mono _ _ _)
   | (with_reducible exact laws_heldIntSS.mono _ _ _)
   | (with_reducible exact laws_markIntSS.mono _ _ _)
   | (with_reducible exact laws_toGraph.mono _ _ _)
   | (with_reducible exact spec_LeastCliqueCover.mono _ _ _)
   | (with_reducible exact LeO.refl _)
   | (with_reducible exact LeO.none _)
   | (with_reducible refine LeO.ite ?_ ?_)
   | (with_reducible refine LeO.bind ?_ (fun _ => ?_))
   | exact ih0 _ _ _ _ _ _ _ _ _
   | exact ih1 _ _ _ _ _ _
   | exact ih2 _ _ _
   | exact impl_LeastCliqueCover.mono _ _ _
   | exact laws_eqGraph.mono _ _ _ _ _
   | exact laws_eqIntSS.mono _ _ _
   | exact laws_heldIntSS.mono _ _ _
   | exact laws_markIntSS.mono _ _ _
   | exact laws_toGraph.mono _ _ _
   | exact spec_LeastCliqueCover.mono _ _ _
   | exact LeO.none _
   | refine LeO.ite ?_ ?_
   | refine LeO.bind ?_ (fun _ => ?_)
theorem laws_FnExactLeastCliqueCover.mono : ∀ a0 a1 k, LeO (laws_FnExactLeastCliqueCover.f k a0 a1) (laws_FnExactLeastCliqueCover.f (k + 1) a0 a1) := by
 intro a0 a1 k
 obtain ⟨ih0, ih1, ih2⟩ := laws_FnExactLeastCliqueCover.mono_l k
 unfold laws_FnExactLeastCliqueCover.f
 repeat' first
   | (with_reducible exact ih0 _ _ _ _ _ _ _ _ _)
   | (with_reducible exact ih1 _ _ _ _ _ _)
   | (with_reducible exact ih2 _ _ _)
   | (with_reducible exact impl_LeastCliqueCover.mono _ _ _)
   | (with_reducible exact laws_eqGraph.mono _ _ _ _ _)
   | (with_reducible exact laws_eqIntSS.mono _ _ _)
   | (with_reducible exact laws_heldIntSS.mono _ _ _)
   | (with_reducible exact laws_markIntSS.mono _ _ _)
   | (with_reducible exact laws_toGraph.mono _ _ _)
   | (with_reducible exact spec_LeastCliqueCover.mono _ _ _)
   | (with_reducible exact LeO.refl _)
   | (with_reducible exact LeO.none _)
   | (with_reducible refine LeO.ite ?_ ?_)
   | (with_reducible refine LeO.bind ?_ (fun _ => ?_))
   | exact ih0 _ _ _ _ _ _ _ _ _
   | exact ih1 _ _ _ _ _ _
   | exact ih2 _ _ _
   | exact impl_LeastCliqueCover.mono _ _ _
   | exact laws_eqGraph.mono _ _ _ _ _
   | exact laws_eqIntSS.mono _ _ _
   | exact laws_heldIntSS.mono _ _ _
   | exact laws_markIntSS.mono _ _ _
   | exact laws_toGraph.mono _ _ _
   | exact spec_LeastCliqueCover.mono _ _ _
   | exact LeO.none _
   | refine LeO.ite ?_ ?_
   | refine LeO.bind ?_ (fun _ => ?_)
set_option maxHeartbeats 8000000 in
set_option maxRecDepth 100000 in
theorem laws_FnExactLeastCliqueCover.calls (k : Nat) (a0_0 : Int) (A0_1 : Option Addr) (c0_1 : Nat) (l0_1 : List (S80)) (r : Bool) (w : World) (hr0_1 : Kd.C k80 w A0_1 l0_1.length l0_1) (hc0_1 : l0_1.length ≤ c0_1) (h : laws_FnExactLeastCliqueCover.f k a0_0 l0_1 = some r) :
  Calls Try.prog 5 #[.agg #[.int .i64 a0_0, .slice A0_1 l0_1.length c0_1]] w fun e w' => e = .returned (.bool r) ∧ Below w.heap.size w w' := by
 have hu24 := Try.underlying24
 have hu29 := Try.underlying29
 have HR0_1 := Aside0.mk hr0_1
 have HC0_1 := Aside0.mk hc0_1
 clear hr0_1 hc0_1
 have HB := Aside0.mk (Below.refl w.heap.size w)
 have H : ((laws_szGraph.f a0_0 l0_1 1048576).bind fun t252 => (if t252 < 0 then (some true) else ((laws_toGraph.f k a0_0 l0_1).bind fun bt253 => ((spec_LeastCliqueCover.f k bt253.1 bt253.2).bind fun bt257 => ((laws_toGraph.f k a0_0 l0_1).bind fun bt261 => ((impl_LeastCliqueCover.f k bt261.1 bt261.2).bind fun bt266 => ((laws_eqIntSS.f k bt266.1 bt257.1).bind fun t270 => (if t270 = true then (laws_FnExactLeastCliqueCover.j0 k bt257.1 bt257.2 bt266.1 bt266.2 (bt266.2 != bt257.2) a0_0 l0_1 bt261.1 bt261.2) else (laws_FnExactLeastCliqueCover.j0 k bt257.1 bt257.2 bt266.1 bt266.2 true a0_0 l0_1 bt261.1 bt261.2))))))))) = some r := h
 clear h
 replace H := Option.bind_eq_some_iff.mp H
 obtain ⟨t252, A20, H⟩ := H
 replace H : (if t252 < 0 then (some true) else ((laws_toGraph.f k a0_0 l0_1).bind fun bt253 => ((spec_LeastCliqueCover.f k bt253.1 bt253.2).bind fun bt257 => ((laws_toGraph.f k a0_0 l0_1).bind fun bt261 => ((impl_LeastCliqueCover.f k bt261.1 bt261.2).bind fun bt266 => ((laws_eqIntSS.f k bt266.1 bt257.1).bind fun t270 => (if t270 = true then (laws_FnExactLeastCliqueCover.j0 k bt257.1 bt257.2 bt266.1 bt266.2 (bt266.2 != bt257.2) a0_0 l0_1 bt261.1 bt261.2) else (laws_FnExactLeastCliqueCover.j0 k bt257.1 bt257.2 bt266.1 bt266.2 true a0_0 l0_1 bt261.1 bt261.2)))))))) = some r := H
 have A2 := Aside0.mk A20
 clear A20
 by_cases c3 : t252 < 0
 ·rw [if_pos c3] at H
  have c3b0 : decide (t252 < 0) = true := decide_eq_true c3
  clear c3
  obtain rfl := Option.some.inj H
  go_enter Try.func5, Try.ntmps5
  go_wp2_with (first | ((with_reducible refine gate_dst (N := 1) rfl ?_);refine box_event ?hg (N := 1) ?hd (cs := #[.int .i64 a0_0, .slice A0_1 l0_1.length c0_1]) (t := 24) ?hr ?_;(case hd => rfl);(case hg => rfl);(case hr => first | (go_simp;done) | (go_simp;rfl));intro gb251 hg w4 hbox hb;have n0_ := Aside0.mk (below_step (by exact bB) hb);have n1_ := Aside0.mk (hbox);have n2_ := Aside0.mk ((by rw [hg];exact (below_size (by exact bB)) : w.heap.size ≤ gb251));have n3_ := Aside0.mk ((by rw [hg];exact (below_size (by exact bB)) : w.heap.size ≤ gb251));clear HB;have HB := n0_;have BK251 := n1_;have GW251 := n2_;have GE251 := n3_;clear n0_ n1_ n2_ n3_;clear hb hbox hg;have hcz5_0 : w4.cell? ⟨gb251, 0, none⟩ = some (.int .i64 a0_0) := (blk_cell BK251.out 0).trans rfl;have hcz5_1 : w4.cell? ⟨gb251, 1, none⟩ = some (.slice A0_1 l0_1.length c0_1) := (blk_cell BK251.out 1).trans rfl;have hfz5_0 := blk_frozen BK251.out 0;have hfz5_1 := blk_frozen BK251.out 1) | ((with_reducible refine gate_callee (f := 9) rfl ?_);refine goesL_ (some 16) rfl rfl Try.func9 (by kernel_rfl) rfl #[.agg #[.int .i64 a0_0, .slice A0_1 l0_1.length c0_1], .int .i64 1048576] rfl mM ?_;(with_reducible refine (laws_szGraph.calls a0_0 _ _ l0_1 1048576 t252 _ ?side1 ?side2 A2.out).mono ?_);(case side1 => exact cP (Kd.C_below HR0_1.out HB.out));(case side2 => exact HC0_1.out);rintro e w6 ⟨rfl, hb⟩;refine ⟨_, rfl, ?_⟩;have n0_ := Aside0.mk (blk_below (g := gb251) (o := .cells #[.int .i64 a0_0, .slice A0_1 l0_1.length c0_1] 24 (0, 0)) (by exact kP BK251.out) hb);have n1_ := Aside0.mk (below_step (by exact bB) hb);clear BK251;clear HB;have BK251 := n0_;have HB := n1_;clear n0_ n1_;(try clear hb);(try clear hb2);(try clear hk);(try clear hi)))
  go_ret
  exact ⟨by first | rfl | (simp [errW_none, errW_some] <;> rfl) | (simp [*, errW_none, errW_some] <;> rfl), by exact bB⟩
 ·rw [if_neg c3] at H
  have c3b0 : decide (t252 < 0) = false := decide_eq_false c3
  clear c3
  replace H := Option.bind_eq_some_iff.mp H
  obtain ⟨⟨t253, t254⟩, A70, H⟩ := H
  replace H : ((spec_LeastCliqueCover.f k t253 t254).bind fun bt257 => ((laws_toGraph.f k a0_0 l0_1).bind fun bt261 => ((impl_LeastCliqueCover.f k bt261.1 bt261.2).bind fun bt266 => ((laws_eqIntSS.f k bt266.1 bt257.1).bind fun t270 => (if t270 = true then (laws_FnExactLeastCliqueCover.j0 k bt257.1 bt257.2 bt266.1 bt266.2 (bt266.2 != bt257.2) a0_0 l0_1 bt261.1 bt261.2) else (laws_FnExactLeastCliqueCover.j0 k bt257.1 bt257.2 bt266.1 bt266.2 true a0_0 l0_1 bt261.1 bt261.2)))))) = some r := H
  have A7 := Aside0.mk A70
  clear A70
  replace H := Option.bind_eq_some_iff.mp H
  obtain ⟨⟨t257, t260⟩, A80, H⟩ := H
  replace H : ((laws_toGraph.f k a0_0 l0_1).bind fun bt261 => ((impl_LeastCliqueCover.f k bt261.1 bt261.2).bind fun bt266 => ((laws_eqIntSS.f k bt266.1 t257).bind fun t270 => (if t270 = true then (laws_FnExactLeastCliqueCover.j0 k t257 t260 bt266.1 bt266.2 (bt266.2 != t260) a0_0 l0_1 bt261.1 bt261.2) else (laws_FnExactLeastCliqueCover.j0 k t257 t260 bt266.1 bt266.2 true a0_0 l0_1 bt261.1 bt261.2))))) = some r := H
  have A8 := Aside0.mk A80
  clear A80
  replace H := Option.bind_eq_some_iff.mp H
  obtain ⟨⟨t261, t262⟩, A90, H⟩ := H
  replace H : ((impl_LeastCliqueCover.f k t261 t262).bind fun bt266 => ((laws_eqIntSS.f k bt266.1 t257).bind fun t270 => (if t270 = true then (laws_FnExactLeastCliqueCover.j0 k t257 t260 bt266.1 bt266.2 (bt266.2 != t260) a0_0 l0_1 t261 t262) else (laws_FnExactLeastCliqueCover.j0 k t257 t260 bt266.1 bt266.2 true a0_0 l0_1 t261 t262)))) = some r := H
  have A9 := Aside0.mk A90
  clear A90
  replace H := Option.bind_eq_some_iff.mp H
  obtain ⟨⟨t266, t269⟩, A100, H⟩ := H
  replace H : ((laws_eqIntSS.f k t266 t257).bind fun t270 => (if t270 = true then (laws_FnExactLeastCliqueCover.j0 k t257 t260 t266 t269 (t269 != t260) a0_0 l0_1 t261 t262) else (laws_FnExactLeastCliqueCover.j0 k t257 t260 t266 t269 true a0_0 l0_1 t261 t262))) = some r := H
  have A10 := Aside0.mk A100
  clear A100
  have HC11 := Aside0.mk H
  clear H
  go_enter Try.func5, Try.ntmps5
  go_upto_region 8 with (first | ((with_reducible refine gate_dst (N := 1) rfl ?_);refine box_event ?hg (N := 1) ?hd (cs := #[.int .i64 a0_0, .slice A0_1 l0_1.length c0_1]) (t := 24) ?hr ?_;(case hd => rfl);(case hg => rfl);(case hr => first | (go_simp;done) | (go_simp;rfl));intro gb251 hg w12 hbox hb;have n0_ := Aside0.mk (below_step (by exact bB) hb);have n1_ := Aside0.mk (hbox);have n2_ := Aside0.mk ((by rw [hg];exact (below_size (by exact bB)) : w.heap.size ≤ gb251));have n3_ := Aside0.mk ((by rw [hg];exact (below_size (by exact bB)) : w.heap.size ≤ gb251));clear HB;have HB := n0_;have BK251 := n1_;have GW251 := n2_;have GE251 := n3_;clear n0_ n1_ n2_ n3_;clear hb hbox hg;have hcz13_0 : w12.cell? ⟨gb251, 0, none⟩ = some (.int .i64 a0_0) := (blk_cell BK251.out 0).trans rfl;have hcz13_1 : w12.cell? ⟨gb251, 1, none⟩ = some (.slice A0_1 l0_1.length c0_1) := (blk_cell BK251.out 1).trans rfl;have hfz13_0 := blk_frozen BK251.out 0;have hfz13_1 := blk_frozen BK251.out 1) | ((with_reducible refine gate_callee (f := 9) rfl ?_);refine goesL_ (some 16) rfl rfl Try.func9 (by kernel_rfl) rfl #[.agg #[.int .i64 a0_0, .slice A0_1 l0_1.length c0_1], .int .i64 1048576] rfl mM ?_;(with_reducible refine (laws_szGraph.calls a0_0 _ _ l0_1 1048576 t252 _ ?side1 ?side2 A2.out).mono ?_);(case side1 => exact cP (Kd.C_below HR0_1.out HB.out));(case side2 => exact HC0_1.out);rintro e w14 ⟨rfl, hb⟩;refine ⟨_, rfl, ?_⟩;have n0_ := Aside0.mk (blk_below (g := gb251) (o := .cells #[.int .i64 a0_0, .slice A0_1 l0_1.length c0_1] 24 (0, 0)) (by exact kP BK251.out) hb);have n1_ := Aside0.mk (below_step (by exact bB) hb);clear BK251;clear HB;have BK251 := n0_;have HB := n1_;clear n0_ n1_;(try clear hb);(try clear hb2);(try clear hk);(try clear hi);have hcz15_0 : w14.cell? ⟨gb251, 0, none⟩ = some (.int .i64 a0_0) := (blk_cell BK251.out 0).trans rfl;have hcz15_1 : w14.cell? ⟨gb251, 1, none⟩ = some (.slice A0_1 l0_1.length c0_1) := (blk_cell BK251.out 1).trans rfl;have hfz15_0 := blk_frozen BK251.out 0;have hfz15_1 := blk_frozen BK251.out 1) | ((with_reducible refine gate_callee (f := 11) rfl ?_);refine goesL_ (some 21) rfl rfl Try.func11 (by kernel_rfl) rfl #[.agg #[.int .i64 a0_0, .slice A0_1 l0_1.length c0_1]] rfl mM ?_;(with_reducible refine (laws_toGraph.calls k a0_0 _ _ l0_1 t253 t254 _ ?side1 ?side2 A7.out).mono ?_);(case side1 => exact cP (Kd.C_below HR0_1.out HB.out));(case side2 => exact HC0_1.out);rintro e w16 ⟨v255, rfl, ho0, hb⟩;refine ⟨_, rfl, ?_⟩;have n0_ := Aside0.mk (Kd.R_lower ho0 (below_size (by exact bB)));have n1_ := Aside0.mk (blk_below (g := gb251) (o := .cells #[.int .i64 a0_0, .slice A0_1 l0_1.length c0_1] 24 (0, 0)) (by exact kP BK251.out) hb);have n2_ := Aside0.mk (below_step (by exact bB) hb);clear BK251;clear HB;have HO256 := n0_;have BK251 := n1_;have HB := n2_;clear n0_ n1_ n2_;(try clear hb);(try clear hb2);(try clear hk);(try clear hi);(try clear ho0);obtain ⟨Ao17, co17, eo17⟩ := Kd.R_slice HO256.out;subst eo17) | ((with_reducible refine gate_callee (f := 18) rfl ?_);refine goesL_ (some 22) rfl rfl Try.func18 (by kernel_rfl) rfl #[.agg #[.int .i64 t253, .slice Ao17 t254.length co17]] rfl mM ?_;(with_reducible refine (spec_LeastCliqueCover.calls k t253 _ _ t254 t257 t260 _ ?side1 ?side2 A8.out).mono ?_);(case side1 => exact cP (Kd.R_reads' HO256.out).2.2);(case side2 => exact (Kd.R_reads' HO256.out).2.1);rintro e w18 ⟨v258, rfl, ho0, hb⟩;refine ⟨_, rfl, ?_⟩;have n0_ := Aside0.mk (Kd.R_below (by (with_reducible repeat (first | apply Kd.R_alloc | apply Kd.S_alloc | apply VL_alloc | apply Kd.R_drewN | apply Kd.S_drewN | apply VL_drewN | apply Kd.R_drew | apply Kd.S_drew | apply VL_drew));exact HO256.out) hb);have n1_ := Aside0.mk (VL_lower ho0 (below_size (by exact bB)));have n2_ := Aside0.mk (blk_below (g := gb251) (o := .cells #[.int .i64 a0_0, .slice A0_1 l0_1.length c0_1] 24 (0, 0)) (by exact kP BK251.out) hb);have n3_ := Aside0.mk (below_step (by exact bB) hb);clear HO256;clear BK251;clear HB;have HO256 := n0_;have HO259 := n1_;have BK251 := n2_;have HB := n3_;clear n0_ n1_ n2_ n3_;(try clear hb);(try clear hb2);(try clear hk);(try clear hi);(try clear ho0);have hcz19_0 : w18.cell? ⟨gb251, 0, none⟩ = some (.int .i64 a0_0) := (blk_cell BK251.out 0).trans rfl;have hcz19_1 : w18.cell? ⟨gb251, 1, none⟩ = some (.slice A0_1 l0_1.length c0_1) := (blk_cell BK251.out 1).trans rfl;have hfz19_0 := blk_frozen BK251.out 0;have hfz19_1 := blk_frozen BK251.out 1) | ((with_reducible refine gate_callee (f := 11) rfl ?_);refine goesL_ (some 26) rfl rfl Try.func11 (by kernel_rfl) rfl #[.agg #[.int .i64 a0_0, .slice A0_1 l0_1.length c0_1]] rfl mM ?_;(with_reducible refine (laws_toGraph.calls k a0_0 _ _ l0_1 t261 t262 _ ?side1 ?side2 A9.out).mono ?_);(case side1 => exact cP (Kd.C_below HR0_1.out HB.out));(case side2 => exact HC0_1.out);rintro e w20 ⟨v263, rfl, ho0, hb⟩;refine ⟨_, rfl, ?_⟩;have n0_ := Aside0.mk (Kd.R_elder' (by (with_reducible repeat (first | apply Kd.R_alloc | apply Kd.S_alloc | apply VL_alloc | apply Kd.R_drewN | apply Kd.S_drewN | apply VL_drewN | apply Kd.R_drew | apply Kd.S_drew | apply VL_drew));exact HO256.out) (Kd.R_base ho0) hb);have n1_ := Aside0.mk (VL_elder' (by (with_reducible repeat (first | apply Kd.R_alloc | apply Kd.S_alloc | apply VL_alloc | apply Kd.R_drewN | apply Kd.S_drewN | apply VL_drewN | apply Kd.R_drew | apply Kd.S_drew | apply VL_drew));exact HO259.out) (Kd.R_base ho0) hb);have n2_ := Aside0.mk (Kd.R_lower (Kd.R_new' ho0 (Kd.R_lt (by (with_reducible repeat (first | apply Kd.R_alloc | apply Kd.S_alloc | apply VL_alloc | apply Kd.R_drewN | apply Kd.S_drewN | apply VL_drewN | apply Kd.R_drew | apply Kd.S_drew | apply VL_drew));exact HO256.out))) (below_size (by exact bB)));have n3_ := Aside0.mk (blk_below (g := gb251) (o := .cells #[.int .i64 a0_0, .slice A0_1 l0_1.length c0_1] 24 (0, 0)) (by exact kP BK251.out) hb);have n4_ := Aside0.mk (below_step (by exact bB) hb);clear HO256;clear HO259;clear BK251;clear HB;have HO256 := n0_;have HO259 := n1_;have HO264 := n2_;have BK251 := n3_;have HB := n4_;clear n0_ n1_ n2_ n3_ n4_;(try clear hb);(try clear hb2);(try clear hk);(try clear hi);(try clear ho0)) | ((with_reducible refine gate_dst (N := 6) rfl ?_);refine box_event ?hg (N := 6) ?hd (cs := #[.int .i64 0, .slice none 0 0]) (t := 29) ?hr ?_;(case hd => rfl);(case hg => rfl);(case hr => first | (go_simp;done) | (go_simp;rfl));intro gb265 hg w21 hbox hb;have n0_ := Aside0.mk (Kd.R_below (by (with_reducible repeat (first | apply Kd.R_alloc | apply Kd.S_alloc | apply VL_alloc | apply Kd.R_drewN | apply Kd.S_drewN | apply VL_drewN | apply Kd.R_drew | apply Kd.S_drew | apply VL_drew));exact HO256.out) hb);have n1_ := Aside0.mk (VL_below (VL_elderB (by (with_reducible repeat (first | apply Kd.R_alloc | apply Kd.S_alloc | apply VL_alloc | apply Kd.R_drewN | apply Kd.S_drewN | apply VL_drewN | apply Kd.R_drew | apply Kd.S_drew | apply VL_drew));exact HO259.out) gb265 (by rw [hg];exact Nat.le_refl _)) hb);have n2_ := Aside0.mk (Kd.R_below (by (with_reducible repeat (first | apply Kd.R_alloc | apply Kd.S_alloc | apply VL_alloc | apply Kd.R_drewN | apply Kd.S_drewN | apply VL_drewN | apply Kd.R_drew | apply Kd.S_drew | apply VL_drew));exact HO264.out) hb);have n3_ := Aside0.mk (blk_below (g := gb251) (o := .cells #[.int .i64 a0_0, .slice A0_1 l0_1.length c0_1] 24 (0, 0)) (by exact kP BK251.out) hb);have n4_ := Aside0.mk (below_step (by exact bB) hb);have n5_ := Aside0.mk (hbox);have n6_ := Aside0.mk ((by rw [hg];exact (below_size (by exact bB)) : w.heap.size ≤ gb265));have n7_ := Aside0.mk ((by rw [hg];exact (below_size (by exact bB)) : w.heap.size ≤ gb265));have n8_ := Aside0.mk ((by rw [hg];exact Nat.ne_of_lt (blk_lt (g := gb251) (o := .cells #[.int .i64 a0_0, .slice A0_1 l0_1.length c0_1] 24 (0, 0)) (by exact kP BK251.out)) : gb251 ≠ gb265));have n9_ := Aside0.mk ((by rw [hg];exact Nat.ne_of_gt (blk_lt (g := gb251) (o := .cells #[.int .i64 a0_0, .slice A0_1 l0_1.length c0_1] 24 (0, 0)) (by exact kP BK251.out)) : gb265 ≠ gb251));clear HO256;clear HO259;clear HO264;clear BK251;clear HB;have HO256 := n0_;have HO259 := n1_;have HO264 := n2_;have BK251 := n3_;have HB := n4_;have BK265 := n5_;have GW265 := n6_;have GE265 := n7_;have NB251_265 := n8_;have NB265_251 := n9_;clear n0_ n1_ n2_ n3_ n4_ n5_ n6_ n7_ n8_ n9_;clear hb hbox hg;have hnb22 := NB265_251.out;have hnc22 := NB251_265.out;have hcz23_0 : w21.cell? ⟨gb265, 0, none⟩ = some (.int .i64 0) := (blk_cell BK265.out 0).trans rfl;have hcz23_1 : w21.cell? ⟨gb265, 1, none⟩ = some (.slice none 0 0) := (blk_cell BK265.out 1).trans rfl;have hfz23_0 := blk_frozen BK265.out 0;have hfz23_1 := blk_frozen BK265.out 1;obtain ⟨Ao24, co24, eo24⟩ := Kd.R_slice HO264.out;subst eo24) | ((with_reducible refine gate_callee (f := 19) rfl ?_);refine goesL_ (some 29) rfl rfl Try.func19 (by kernel_rfl) rfl #[.agg #[.int .i64 t261, .slice Ao24 t262.length co24]] rfl mM ?_;(with_reducible refine (impl_LeastCliqueCover.calls k t261 _ _ t262 t266 t269 _ ?side1 ?side2 A10.out).mono ?_);(case side1 => refine (Kd.R_reads' (e := 80) (base := w.heap.size) (ok := fun k_ => (True ∧ some k_ ≠ (.slice Ao17 t254.length co17 : Value).ownBlock)) (n := t262.length) (c := co24) ?_).2.2;exact (by (with_reducible repeat (first | apply Kd.R_alloc | apply Kd.S_alloc | apply VL_alloc | apply Kd.R_drewN | apply Kd.S_drewN | apply VL_drewN | apply Kd.R_drew | apply Kd.S_drew | apply VL_drew));exact (Kd.R_mono (Kd.R_far (p := ⟨gb265, 1, none⟩) (Kd.R_far (p := ⟨gb265, 0, none⟩) (Kd.R_types HO264.out BK265.out (by decide)) (fun _ hk => hk.2) (.int .i64 t261)) (fun _ hk => hk.2) (.slice Ao24 t262.length co24)) (fun _ h_ => h_.1))));(case side2 => exact (Kd.R_reads' HO264.out).2.1);rintro e w25 ⟨v267, rfl, ho0, hb⟩;refine ⟨_, rfl, ?_⟩;obtain ⟨P9_, hp9_⟩ := mine9_old hb;have n0_ := Aside0.mk (Kd.R_below (by (with_reducible repeat (first | apply Kd.R_alloc | apply Kd.S_alloc | apply VL_alloc | apply Kd.R_drewN | apply Kd.S_drewN | apply VL_drewN | apply Kd.R_drew | apply Kd.S_drew | apply VL_drew));exact (Kd.R_mono (Kd.R_far (p := ⟨gb265, 1, none⟩) (Kd.R_far (p := ⟨gb265, 0, none⟩) (Kd.R_types HO256.out BK265.out (by decide)) (fun _ hk => hk.2) (.int .i64 t261)) (fun _ hk => hk.2) (.slice Ao24 t262.length co24)) (fun _ h_ => h_.1))) hb);have n1_ := Aside0.mk (VL_mono (ok' := fun k_ => ¬ P9_ k_ ∧ some k_ ≠ (.slice Ao24 t262.length co24 : Value).ownBlock) (VL_old (ok := fun k_ => True ∧ some k_ ≠ (.slice Ao24 t262.length co24 : Value).ownBlock) (by (with_reducible repeat (first | apply Kd.R_alloc | apply Kd.S_alloc | apply VL_alloc | apply Kd.R_drewN | apply Kd.S_drewN | apply VL_drewN | apply Kd.R_drew | apply Kd.S_drew | apply VL_drew));exact (VL_mono (ok' := fun k_ => True ∧ some k_ ≠ (.slice Ao24 t262.length co24 : Value).ownBlock) (VL_far (p := ⟨gb265, 1, none⟩) (VL_far (p := ⟨gb265, 0, none⟩) HO259.out (fun _ hk => hk.2) (.int .i64 t261)) (fun _ hk => hk.2) (.slice Ao24 t262.length co24)) (fun _ h_ => ⟨trivial, h_.1.2⟩))) hb) (fun k_ hk_ => ⟨fun h_ => absurd ((hp9_ k_).1 h_) (Nat.not_le.mpr hk_.2), hk_.1.2⟩));have n2_ := Aside0.mk (Kd.R_below (by (with_reducible repeat (first | apply Kd.R_alloc | apply Kd.S_alloc | apply VL_alloc | apply Kd.R_drewN | apply Kd.S_drewN | apply VL_drewN | apply Kd.R_drew | apply Kd.S_drew | apply VL_drew));exact (Kd.R_mono (Kd.R_far (p := ⟨gb265, 1, none⟩) (Kd.R_far (p := ⟨gb265, 0, none⟩) (Kd.R_types HO264.out BK265.out (by decide)) (fun _ hk => hk.2) (.int .i64 t261)) (fun _ hk => hk.2) (.slice Ao24 t262.length co24)) (fun _ h_ => h_.1))) hb);have n3_ := Aside0.mk (Kd.S_lower (Kd.S_mono (ok' := fun k_ => P9_ k_) (Kd.S_bound ho0) (fun k_ hk_ => (hp9_ k_).2 hk_.2.1)) (below_size (by exact bB)));have n4_ := Aside0.mk (blk_below (g := gb251) (o := .cells #[.int .i64 a0_0, .slice A0_1 l0_1.length c0_1] 24 (0, 0)) (by refine kP ?_;refine blk_far ?_ NB251_265.out _;refine kP ?_;refine blk_far ?_ NB251_265.out _;exact kP BK251.out) hb);have n5_ := Aside0.mk (blk_below (g := gb265) (o := .cells #[.int .i64 t261, .slice Ao24 t262.length co24] 29 (0, 0)) (by refine kP ?_;refine blk_put (cs := #[.int .i64 t261, .slice none 0 0]) ?_ 1 _ rfl;refine kP ?_;refine blk_put (cs := #[.int .i64 0, .slice none 0 0]) ?_ 0 _ rfl;exact kP BK265.out) hb);have n6_ := Aside0.mk (below_step (by exact bB) hb);clear HO256;clear HO259;clear HO264;clear BK251;clear BK265;clear HB;have HO256 := n0_;have HO259 := n1_;have HO264 := n2_;have HO268 := n3_;have BK251 := n4_;have BK265 := n5_;have HB := n6_;clear n0_ n1_ n2_ n3_ n4_ n5_ n6_;(try clear hb);(try clear hb2);(try clear hk);(try clear hi);(try clear ho0)))
  (try simp only [Act.put, List.setIfInBounds_toArray, List.set_cons_zero, List.set_cons_succ])
  go_cut [40] (fun v40 wc => ∃ (P9_ : Nat → Prop) (kq : Nat) (x40_10 : Bool), v40 = .bool x40_10 ∧ Aside0 (laws_FnExactLeastCliqueCover.j0 kq t257 t260 t266 t269 x40_10 a0_0 l0_1 t261 t262 = some r) ∧ Aside0 (kq ≤ k) ∧ Aside0 (VL (Kd.slice 3 (Kd.int .i64)) 25 wc w.heap.size (fun k_ => ¬ P9_ k_ ∧ some k_ ≠ (.slice Ao24 t262.length co24 : Value).ownBlock) v258 t257) ∧ Aside0 (Kd.S (Kd.slice 3 (Kd.int .i64)) 25 wc w.heap.size (fun k_ => P9_ k_) v267 t266) ∧ Aside0 (Kd.R k80 80 wc w.heap.size (fun _ => True) (.slice Ao24 t262.length co24) t262) ∧ Aside0 (wc.heap[gb251]? = some (.cells #[.int .i64 a0_0, (.slice A0_1 l0_1.length c0_1)] 24 (0, 0))) ∧ Aside0 (wc.heap[gb265]? = some (.cells #[.int .i64 t261, (.slice Ao24 t262.length co24)] 29 (0, 0))) ∧ Aside0 (Below w.heap.size w wc))
  case first =>
   have H := HC11.out
   clear HC11
   replace H := Option.bind_eq_some_iff.mp H
   obtain ⟨t270, A260, H⟩ := H
   replace H : (if t270 = true then (laws_FnExactLeastCliqueCover.j0 k t257 t260 t266 t269 (t269 != t260) a0_0 l0_1 t261 t262) else (laws_FnExactLeastCliqueCover.j0 k t257 t260 t266 t269 true a0_0 l0_1 t261 t262)) = some r := H
   have A26 := Aside0.mk A260
   clear A260
   by_cases c27 : t270 = true
   ·subst c27
    have H1 : (laws_FnExactLeastCliqueCover.j0 k t257 t260 t266 t269 (t269 != t260) a0_0 l0_1 t261 t262) = some r := by rw [if_pos rfl] at H;exact H
    clear H
    have H := H1
    clear H1
    have H' := Aside0.mk H
    clear H
    obtain ⟨Ao28, co28, eo28⟩ := Kd.S_slice HO268.out
    subst eo28
    obtain ⟨Ao29, co29, eo29⟩ := VL_slice HO259.out
    subst eo29
    go_wp2_with (first | ((with_reducible refine gate_callee (f := 20) rfl ?_);refine goesL_ (some 34) rfl rfl Try.func20 (by kernel_rfl) rfl #[.slice Ao28 t266.length co28, .slice Ao29 t257.length co29] rfl mM ?_;(with_reducible refine (laws_eqIntSS.calls k _ _ t266 _ _ t257 true _ ?side1 ?side2 ?side3 ?side4 A26.out).mono ?_);(case side1 => exact cP (Kd.S_reads' HO268.out).2.2);(case side2 => exact (Kd.S_reads' HO268.out).2.1);(case side3 => exact cP (VL_reads' HO259.out).2.2);(case side4 => exact (VL_reads' HO259.out).2.1);rintro e w' ⟨rfl, ⟨nd, rfl⟩⟩;refine ⟨_, rfl, ?_⟩))
    go_meet
    case rel => exact ⟨P9_, _, ((t269 != t260)), (by first | rfl | (simp;done) | (simp [*];done)), H', ⟨by first | omega | exact Nat.le_refl _⟩, ⟨by (with_reducible repeat (first | apply Kd.R_alloc | apply Kd.S_alloc | apply VL_alloc | apply Kd.R_drewN | apply Kd.S_drewN | apply VL_drewN | apply Kd.R_drew | apply Kd.S_drew | apply VL_drew));exact VL_mono HO259.out (fun _ hk => by first | exact hk | exact hk.2 | exact hk.1 | exact hk.2.1 | exact ⟨hk.1, hk.2.1⟩ | trivial)⟩, ⟨by (with_reducible repeat (first | apply Kd.R_alloc | apply Kd.S_alloc | apply VL_alloc | apply Kd.R_drewN | apply Kd.S_drewN | apply VL_drewN | apply Kd.R_drew | apply Kd.S_drew | apply VL_drew));exact Kd.S_mono HO268.out (fun _ hk => by first | exact hk | exact hk.2 | exact hk.1 | exact hk.2.1 | exact ⟨hk.1, hk.2.1⟩ | trivial)⟩, ⟨by (with_reducible repeat (first | apply Kd.R_alloc | apply Kd.S_alloc | apply VL_alloc | apply Kd.R_drewN | apply Kd.S_drewN | apply VL_drewN | apply Kd.R_drew | apply Kd.S_drew | apply VL_drew));exact Kd.R_mono HO264.out (fun _ hk => trivial)⟩, ⟨by exact kP BK251.out⟩, ⟨by exact kP BK265.out⟩, ⟨by exact bB⟩⟩
   ·replace c27 := Bool.eq_false_iff.mpr c27
    subst c27
    have H1 : (laws_FnExactLeastCliqueCover.j0 k t257 t260 t266 t269 true a0_0 l0_1 t261 t262) = some r := by rw [if_neg (show ¬ (false = true) by decide)] at H;exact H
    clear H
    have H := H1
    clear H1
    have H' := Aside0.mk H
    clear H
    obtain ⟨Ao30, co30, eo30⟩ := Kd.S_slice HO268.out
    subst eo30
    obtain ⟨Ao31, co31, eo31⟩ := VL_slice HO259.out
    subst eo31
    go_wp2_with (first | ((with_reducible refine gate_callee (f := 20) rfl ?_);refine goesL_ (some 34) rfl rfl Try.func20 (by kernel_rfl) rfl #[.slice Ao30 t266.length co30, .slice Ao31 t257.length co31] rfl mM ?_;(with_reducible refine (laws_eqIntSS.calls k _ _ t266 _ _ t257 false _ ?side1 ?side2 ?side3 ?side4 A26.out).mono ?_);(case side1 => exact cP (Kd.S_reads' HO268.out).2.2);(case side2 => exact (Kd.S_reads' HO268.out).2.1);(case side3 => exact cP (VL_reads' HO259.out).2.2);(case side4 => exact (VL_reads' HO259.out).2.1);rintro e w' ⟨rfl, ⟨nd, rfl⟩⟩;refine ⟨_, rfl, ?_⟩))
    go_meet
    case rel => exact ⟨P9_, _, (true), (by first | rfl | (simp;done) | (simp [*];done)), H', ⟨by first | omega | exact Nat.le_refl _⟩, ⟨by (with_reducible repeat (first | apply Kd.R_alloc | apply Kd.S_alloc | apply VL_alloc | apply Kd.R_drewN | apply Kd.S_drewN | apply VL_drewN | apply Kd.R_drew | apply Kd.S_drew | apply VL_drew));exact VL_mono HO259.out (fun _ hk => by first | exact hk | exact hk.2 | exact hk.1 | exact hk.2.1 | exact ⟨hk.1, hk.2.1⟩ | trivial)⟩, ⟨by (with_reducible repeat (first | apply Kd.R_alloc | apply Kd.S_alloc | apply VL_alloc | apply Kd.R_drewN | apply Kd.S_drewN | apply VL_drewN | apply Kd.R_drew | apply Kd.S_drew | apply VL_drew));exact Kd.S_mono HO268.out (fun _ hk => by first | exact hk | exact hk.2 | exact hk.1 | exact hk.2.1 | exact ⟨hk.1, hk.2.1⟩ | trivial)⟩, ⟨by (with_reducible repeat (first | apply Kd.R_alloc | apply Kd.S_alloc | apply VL_alloc | apply Kd.R_drewN | apply Kd.S_drewN | apply VL_drewN | apply Kd.R_drew | apply Kd.S_drew | apply VL_drew));exact Kd.R_mono HO264.out (fun _ hk => trivial)⟩, ⟨by exact kP BK251.out⟩, ⟨by exact kP BK265.out⟩, ⟨by exact bB⟩⟩
  case rest =>
   clear HC11
   try clear c1
   try clear c2
   try clear p2
   try clear c3
   try clear c3b0
   try clear c5
   try clear c9
   try clear c11
   try clear c18
   try clear c19
   try clear c20
   try clear c22
   try clear c27
   try clear hcz13_0
   try clear hcz13_1
   try clear hcz15_0
   try clear hcz15_1
   try clear hcz19_0
   try clear hcz19_1
   try clear hcz23_0
   try clear hcz23_1
   try clear hcz5_0
   try clear hcz5_1
   try clear hfz13_0
   try clear hfz13_1
   try clear hfz15_0
   try clear hfz15_1
   try clear hfz19_0
   try clear hfz19_1
   try clear hfz23_0
   try clear hfz23_1
   try clear hfz5_0
   try clear hfz5_1
   obtain ⟨P9_, kq, x40_10, rfl, HA, HJ10, HO_4, HO_7, HO_266001, BK251, BK265, HB⟩ := hcut
   cases kq with
   | zero => exact absurd HA.out (by simp [laws_FnExactLeastCliqueCover.j0])
   | succ kj10 =>
    have H := HA.out
    clear HA
    simp only [laws_FnExactLeastCliqueCover.j0] at H
    by_cases c32 : x40_10 = true
    ·subst c32
     have H1 : (some false) = some r := by rw [if_pos rfl] at H;exact H
     clear H
     have H := H1
     clear H1
     obtain rfl := Option.some.inj H
     go_wp2
     go_ret
     exact ⟨by first | rfl | (simp [errW_none, errW_some] <;> rfl) | (simp [*, errW_none, errW_some] <;> rfl), by exact bB⟩
    ·replace c32 := Bool.eq_false_iff.mpr c32
     subst c32
     have H1 : ((laws_toGraph.f kj10 a0_0 l0_1).bind fun bt271 => ((laws_eqGraph.f kj10 t261 t262 bt271.1 bt271.2).bind fun t275 => (if t275 = true then ((laws_markGraph.f t261 t262 1).bind fun bt276 => (if bt276.1 < 0 then (laws_FnExactLeastCliqueCover.j1 kj10 t257 t260 t266 true a0_0 l0_1) else ((laws_eqIntSS.f kj10 t266 t257).bind fun t278 => (if t278 = true then (laws_FnExactLeastCliqueCover.j1 kj10 t257 t260 t266 (t269 != t260) a0_0 l0_1) else (laws_FnExactLeastCliqueCover.j1 kj10 t257 t260 t266 true a0_0 l0_1))))) else (some false)))) = some r := by rw [if_neg (show ¬ (false = true) by decide)] at H;exact H
     clear H
     have H := H1
     clear H1
     replace H := Option.bind_eq_some_iff.mp H
     obtain ⟨⟨t271, t272⟩, A330, H⟩ := H
     replace H : ((laws_eqGraph.f kj10 t261 t262 t271 t272).bind fun t275 => (if t275 = true then ((laws_markGraph.f t261 t262 1).bind fun bt276 => (if bt276.1 < 0 then (laws_FnExactLeastCliqueCover.j1 kj10 t257 t260 t266 true a0_0 l0_1) else ((laws_eqIntSS.f kj10 t266 t257).bind fun t278 => (if t278 = true then (laws_FnExactLeastCliqueCover.j1 kj10 t257 t260 t266 (t269 != t260) a0_0 l0_1) else (laws_FnExactLeastCliqueCover.j1 kj10 t257 t260 t266 true a0_0 l0_1))))) else (some false))) = some r := H
     have A33 := Aside0.mk A330
     clear A330
     replace H := Option.bind_eq_some_iff.mp H
     obtain ⟨t275, A340, H⟩ := H
     replace H : (if t275 = true then ((laws_markGraph.f t261 t262 1).bind fun bt276 => (if bt276.1 < 0 then (laws_FnExactLeastCliqueCover.j1 kj10 t257 t260 t266 true a0_0 l0_1) else ((laws_eqIntSS.f kj10 t266 t257).bind fun t278 => (if t278 = true then (laws_FnExactLeastCliqueCover.j1 kj10 t257 t260 t266 (t269 != t260) a0_0 l0_1) else (laws_FnExactLeastCliqueCover.j1 kj10 t257 t260 t266 true a0_0 l0_1))))) else (some false)) = some r := H
     have A34 := Aside0.mk A340
     clear A340
     by_cases c35 : t275 = true
     ·subst c35
      have H1 : ((laws_markGraph.f t261 t262 1).bind fun bt276 => (if bt276.1 < 0 then (laws_FnExactLeastCliqueCover.j1 kj10 t257 t260 t266 true a0_0 l0_1) else ((laws_eqIntSS.f kj10 t266 t257).bind fun t278 => (if t278 = true then (laws_FnExactLeastCliqueCover.j1 kj10 t257 t260 t266 (t269 != t260) a0_0 l0_1) else (laws_FnExactLeastCliqueCover.j1 kj10 t257 t260 t266 true a0_0 l0_1))))) = some r := by rw [if_pos rfl] at H;exact H
      clear H
      have H := H1
      clear H1
      replace H := Option.bind_eq_some_iff.mp H
      obtain ⟨⟨t276, t277⟩, A360, H⟩ := H
      replace H : (if t276 < 0 then (laws_FnExactLeastCliqueCover.j1 kj10 t257 t260 t266 true a0_0 l0_1) else ((laws_eqIntSS.f kj10 t266 t257).bind fun t278 => (if t278 = true then (laws_FnExactLeastCliqueCover.j1 kj10 t257 t260 t266 (t269 != t260) a0_0 l0_1) else (laws_FnExactLeastCliqueCover.j1 kj10 t257 t260 t266 true a0_0 l0_1)))) = some r := H
      have A36 := Aside0.mk A360
      clear A360
      have HC37 := Aside0.mk H
      clear H
      try go_wp2
      have n0_ := Aside0.mk (VL_drew HO_4.out)
      have n1_ := Aside0.mk (Kd.S_drew HO_7.out)
      have n2_ := Aside0.mk (Kd.R_drew HO_266001.out)
      have n3_ := Aside0.mk (blk_drew BK251.out)
      have n4_ := Aside0.mk (blk_drew BK265.out)
      have n5_ := Aside0.mk (below_drew1 HB.out)
      clear HO_4
      clear HO_7
      clear HO_266001
      clear BK251
      clear BK265
      clear HB
      have HO_4 := n0_
      have HO_7 := n1_
      have HO_266001 := n2_
      have BK251 := n3_
      have BK265 := n4_
      have HB := n5_
      clear n0_ n1_ n2_ n3_ n4_ n5_
      refine start_ (n := 5) (S := fun w' => w'.cell? ⟨gb265, 0, none⟩ = some (.int .i64 t261) ∧ w'.cell? ⟨gb265, 1, none⟩ = some (.slice Ao24 t262.length co24) ∧ w'.cell? ⟨gb251, 0, none⟩ = some (.int .i64 a0_0) ∧ w'.cell? ⟨gb251, 1, none⟩ = some (.slice A0_1 l0_1.length c0_1)) (ds := []) #[false,false,false,false,false] (by kernel_rfl) rfl rfl ⟨(blk_cell BK265.out 0).trans rfl, (blk_cell BK265.out 1).trans rfl, (blk_cell BK251.out 0).trans rfl, (blk_cell BK251.out 1).trans rfl⟩ (fun hHeld => ?_)
      generalize wc.drew = w38 at HO_4 HO_7 HO_266001 BK251 BK265 HB hHeld ⊢
      refine take_ (i := 0) (N := some 41) (v := ?_) (a' := ?_) #[true,false,false,false,false] rfl rfl (by kernel_rfl) (fun _ _ _ h => h) (Or.inl ⟨by rfl, ?_⟩) hHeld ?_ ?_
      rotate_left
      ·rintro w' ⟨s0, s1, s2, s3⟩
       go_simp
       with_reducible rfl
      rotate_left
      ·simp only [Act.put, List.setIfInBounds_toArray, List.set_cons_zero, List.set_cons_succ, i64_w, i32_w]
       rfl
      refine take_ (i := 1) (N := some 42) (v := ?_) (a' := ?_) #[true,true,false,false,false] rfl rfl (by kernel_rfl) (fun _ _ _ h => h) (Or.inl ⟨by rfl, ?_⟩) hHeld ?_ ?_
      rotate_left
      ·rintro w' ⟨s0, s1, s2, s3⟩
       go_simp
       with_reducible rfl
      rotate_left
      ·simp only [Act.put, List.setIfInBounds_toArray, List.set_cons_zero, List.set_cons_succ, i64_w, i32_w]
       rfl
      refine one_ (i := 2) (N := some 43) #[true,true,true,false,false] rfl rfl (by kernel_rfl) (by decide) (fun K hK => ?_)
      refine goes_ Try.func11 (by kernel_rfl) rfl #[.agg #[.int .i64 a0_0, .slice A0_1 l0_1.length c0_1]] (by rfl) rfl rfl mM ?_
      with_reducible refine (laws_toGraph.calls kj10 a0_0 _ _ l0_1 t271 t272 _ ?side1 ?side2 A33.out).mono ?_
      (case side1 => exact cP (Kd.C_below HR0_1.out HB.out))
      (case side2 => exact HC0_1.out)
      rintro e w39 ⟨v273, rfl, ho0, hb⟩
      refine ⟨_, rfl, ?_⟩
      have n0_ := Aside0.mk (VL_below (by (with_reducible repeat (first | apply Kd.R_alloc | apply Kd.S_alloc | apply VL_alloc | apply Kd.R_drewN | apply Kd.S_drewN | apply VL_drewN | apply Kd.R_drew | apply Kd.S_drew | apply VL_drew));exact HO_4.out) hb)
      have n1_ := Aside0.mk (Kd.S_below (by (with_reducible repeat (first | apply Kd.R_alloc | apply Kd.S_alloc | apply VL_alloc | apply Kd.R_drewN | apply Kd.S_drewN | apply VL_drewN | apply Kd.R_drew | apply Kd.S_drew | apply VL_drew));exact HO_7.out) hb)
      have n2_ := Aside0.mk (Kd.R_elder' (by (with_reducible repeat (first | apply Kd.R_alloc | apply Kd.S_alloc | apply VL_alloc | apply Kd.R_drewN | apply Kd.S_drewN | apply VL_drewN | apply Kd.R_drew | apply Kd.S_drew | apply VL_drew));exact HO_266001.out) (Kd.R_base ho0) hb)
      have n3_ := Aside0.mk (Kd.R_lower (Kd.R_new' ho0 (Kd.R_lt (by (with_reducible repeat (first | apply Kd.R_alloc | apply Kd.S_alloc | apply VL_alloc | apply Kd.R_drewN | apply Kd.S_drewN | apply VL_drewN | apply Kd.R_drew | apply Kd.S_drew | apply VL_drew));exact HO_266001.out))) (below_size (by exact bB)))
      have n4_ := Aside0.mk (blk_below (g := gb251) (o := .cells #[.int .i64 a0_0, .slice A0_1 l0_1.length c0_1] 24 (0, 0)) (by exact kP BK251.out) hb)
      have n5_ := Aside0.mk (blk_below (g := gb265) (o := .cells #[.int .i64 t261, .slice Ao24 t262.length co24] 29 (0, 0)) (by exact kP BK265.out) hb)
      have n6_ := Aside0.mk (below_step (by exact bB) hb)
      clear HO_4
      clear HO_7
      clear HO_266001
      clear BK251
      clear BK265
      clear HB
      have HO_4 := n0_
      have HO_7 := n1_
      have HO_266001 := n2_
      have HO274 := n3_
      have BK251 := n4_
      have BK265 := n5_
      have HB := n6_
      clear n0_ n1_ n2_ n3_ n4_ n5_ n6_
      (try clear hb)
      (try clear hb2)
      (try clear hk)
      (try clear hi)
      (try clear ho0)
      obtain ⟨Ao40, co40, eo40⟩ := Kd.R_slice HO274.out
      (first | subst eo40 | (injection eo40 with f1_ f2_ f3_;have f4_ := f1_.symm;have f5_ := f3_.symm;clear f1_ f2_ f3_;subst f4_;subst f5_))
      refine hK.out _ _ ⟨(blk_cell BK265.out 0).trans rfl, (blk_cell BK265.out 1).trans rfl, (blk_cell BK251.out 0).trans rfl, (blk_cell BK251.out 1).trans rfl⟩ (fun hHeld => ?_)
      clear hK K
      refine norm_ (a' := ?_) ?_ ?_
      rotate_left
      ·show Act.put _ (some 43) _ = _
       simp only [Act.put, List.setIfInBounds_toArray, List.set_cons_zero, List.set_cons_succ, i64_w, i32_w]
       rfl
      refine one_ (i := 3) (N := some 44) #[true,true,true,true,false] rfl rfl (by kernel_rfl) (by decide) (fun K hK => ?_)
      refine goes_ Try.func14 (by kernel_rfl) rfl #[.agg #[.int .i64 t261, .slice Ao24 t262.length co24], .agg #[.int .i64 t271, .slice Ao40 t272.length co40]] (by rfl) rfl rfl mM ?_
      with_reducible refine (laws_eqGraph.calls kj10 t261 _ _ t262 t271 _ _ t272 true _ ?side1 ?side2 ?side3 ?side4 A34.out).mono ?_
      (case side1 => exact cP (Kd.R_reads' HO_266001.out).2.2)
      (case side2 => exact (Kd.R_reads' HO_266001.out).2.1)
      (case side3 => exact cP (Kd.R_reads' HO274.out).2.2)
      (case side4 => exact (Kd.R_reads' HO274.out).2.1)
      rintro e w41 ⟨rfl, hb⟩
      refine ⟨_, rfl, ?_⟩
      have n0_ := Aside0.mk (VL_below (by (with_reducible repeat (first | apply Kd.R_alloc | apply Kd.S_alloc | apply VL_alloc | apply Kd.R_drewN | apply Kd.S_drewN | apply VL_drewN | apply Kd.R_drew | apply Kd.S_drew | apply VL_drew));exact HO_4.out) hb)
      have n1_ := Aside0.mk (Kd.S_below (by (with_reducible repeat (first | apply Kd.R_alloc | apply Kd.S_alloc | apply VL_alloc | apply Kd.R_drewN | apply Kd.S_drewN | apply VL_drewN | apply Kd.R_drew | apply Kd.S_drew | apply VL_drew));exact HO_7.out) hb)
      have n2_ := Aside0.mk (Kd.R_below (by (with_reducible repeat (first | apply Kd.R_alloc | apply Kd.S_alloc | apply VL_alloc | apply Kd.R_drewN | apply Kd.S_drewN | apply VL_drewN | apply Kd.R_drew | apply Kd.S_drew | apply VL_drew));exact HO_266001.out) hb)
      have n3_ := Aside0.mk (Kd.R_below (by (with_reducible repeat (first | apply Kd.R_alloc | apply Kd.S_alloc | apply VL_alloc | apply Kd.R_drewN | apply Kd.S_drewN | apply VL_drewN | apply Kd.R_drew | apply Kd.S_drew | apply VL_drew));exact HO274.out) hb)
      have n4_ := Aside0.mk (blk_below (g := gb251) (o := .cells #[.int .i64 a0_0, .slice A0_1 l0_1.length c0_1] 24 (0, 0)) (by exact kP BK251.out) hb)
      have n5_ := Aside0.mk (blk_below (g := gb265) (o := .cells #[.int .i64 t261, .slice Ao24 t262.length co24] 29 (0, 0)) (by exact kP BK265.out) hb)
      have n6_ := Aside0.mk (below_step (by exact bB) hb)
      clear HO_4
      clear HO_7
      clear HO_266001
      clear HO274
      clear BK251
      clear BK265
      clear HB
      have HO_4 := n0_
      have HO_7 := n1_
      have HO_266001 := n2_
      have HO274 := n3_
      have BK251 := n4_
      have BK265 := n5_
      have HB := n6_
      clear n0_ n1_ n2_ n3_ n4_ n5_ n6_
      (try clear hb)
      (try clear hb2)
      (try clear hk)
      (try clear hi)
      refine hK.out _ _ ⟨(blk_cell BK265.out 0).trans rfl, (blk_cell BK265.out 1).trans rfl, (blk_cell BK251.out 0).trans rfl, (blk_cell BK251.out 1).trans rfl⟩ (fun hHeld => ?_)
      clear hK K
      refine norm_ (a' := ?_) ?_ ?_
      rotate_left
      ·show Act.put _ (some 44) _ = _
       simp only [Act.put, List.setIfInBounds_toArray, List.set_cons_zero, List.set_cons_succ, i64_w, i32_w]
       rfl
      refine pure_ (i := 4) (N := some 45) (v := ?_) (a' := ?_) #[true,true,true,true,true] rfl rfl (by kernel_rfl) (fun _ _ _ h => h) (Or.inl ⟨by rfl, ?_⟩) ?_ ?_
      rotate_left
      ·intro w'
       go_simp
       with_reducible rfl
      rotate_left
      ·simp only [Act.put, List.setIfInBounds_toArray, List.set_cons_zero, List.set_cons_succ, i64_w, i32_w]
       rfl
      refine done_ (by kernel_rfl) ?_
      have hnb42 := NB265_251.out
      have hnc42 := NB251_265.out
      have hcz43_0 : w41.cell? ⟨gb265, 0, none⟩ = some (.int .i64 t261) := (blk_cell BK265.out 0).trans rfl
      have hcz43_1 : w41.cell? ⟨gb265, 1, none⟩ = some (.slice Ao24 t262.length co24) := (blk_cell BK265.out 1).trans rfl
      have hfz43_0 := blk_frozen BK265.out 0
      have hfz43_1 := blk_frozen BK265.out 1
      go_upto_region 14 with (first | ((with_reducible refine gate_callee (f := 21) rfl ?_);refine goesL_ (some 48) rfl rfl Try.func21 (by kernel_rfl) rfl #[.agg #[.int .i64 t261, .slice Ao24 t262.length co24], .int .i64 1] rfl mM ?_;(with_reducible refine (laws_markGraph.calls t261 (fun k_ => some k_ = (.slice Ao24 t262.length co24 : Value).ownBlock) (.slice Ao24 t262.length co24) t262 1 t276 t277 w _ ?side1 ?side2 A36.out).mono ?_);(case side1 => exact bB);(case side2 => exact Kd.R_tight rfl HO_266001.out);rintro e w44 ⟨rfl, hy0, hb, hkp⟩;refine ⟨_, rfl, ?_⟩;have n0_ := Aside0.mk (VL_mono (ok' := fun k_ => ¬ P9_ k_) (VL_keptB HO_4.out hkp (fun k_ hk_ hs_ => hk_.2 hs_)) (fun k_ hk_ => hk_.1.1));have n1_ := Aside0.mk (Kd.S_mono (ok' := fun k_ => P9_ k_) (Kd.S_keptB (Kd.S_apart' HO_7.out (Kd.R_typed HO_266001.out) (by decide)) hkp (fun k_ hk_ hs_ => hk_.2 hs_)) (fun k_ hk_ => hk_.1.1));have n2_ := Aside0.mk (Kd.R_reok rfl hy0 (fun k_ e_ => HO_266001.out.1 k_ e_));have n3_ := Aside0.mk (blk_kept (by exact kP BK251.out) hkp (fun hs_ => (fun e_ => (Kd.R_ne HO_266001.out BK251.out (by decide)) e_) hs_));have n4_ := Aside0.mk (blk_kept (by exact kP BK265.out) hkp (fun hs_ => (fun e_ => (Kd.R_ne HO_266001.out BK265.out (by decide)) e_) hs_));have n5_ := Aside0.mk (Kd.R_mono (ok' := fun k_ => some k_ ≠ (.slice Ao24 t262.length co24 : Value).ownBlock) (Kd.R_keptB (HO274.out) hkp (fun k_ hk_ hs_ => (hk_.2) hs_)) (fun k_ hk_ => hk_.1.2));have n6_ := Aside0.mk (hb);clear HO_4;clear HO_7;clear HO_266001;clear BK251;clear BK265;clear HO274;clear HB;have HO_4 := n0_;have HO_7 := n1_;have HO_266001 := n2_;have BK251 := n3_;have BK265 := n4_;have HO274 := n5_;have HB := n6_;clear n0_ n1_ n2_ n3_ n4_ n5_ n6_;(try clear hb);(try clear hkp);(try clear hy0)))
      (try simp only [Act.put, List.setIfInBounds_toArray, List.set_cons_zero, List.set_cons_succ])
      go_cut [61] (fun v61 wc => ∃ (P9_ : Nat → Prop) (kq : Nat) (x61_36 : Bool), v61 = .bool x61_36 ∧ Aside0 (laws_FnExactLeastCliqueCover.j1 kq t257 t260 t266 x61_36 a0_0 l0_1 = some r) ∧ Aside0 (kq ≤ kj10) ∧ Aside0 (VL (Kd.slice 3 (Kd.int .i64)) 25 wc w.heap.size (fun k_ => ¬ P9_ k_) v258 t257) ∧ Aside0 (Kd.S (Kd.slice 3 (Kd.int .i64)) 25 wc w.heap.size (fun k_ => P9_ k_) v267 t266) ∧ Aside0 (Kd.R k80 80 wc w.heap.size (fun _ => True) (.slice Ao24 t262.length co24) t277) ∧ Aside0 (wc.heap[gb251]? = some (.cells #[.int .i64 a0_0, (.slice A0_1 l0_1.length c0_1)] 24 (0, 0))) ∧ Aside0 (wc.heap[gb265]? = some (.cells #[.int .i64 t261, (.slice Ao24 t262.length co24)] 29 (0, 0))) ∧ Aside0 (Below w.heap.size w wc))
      case first =>
       have H := HC37.out
       clear HC37
       by_cases c45 : t276 < 0
       ·rw [if_pos c45] at H
        have c45b0 : decide (t276 < 0) = true := decide_eq_true c45
        clear c45
        (first | rw [c45b0] | (simp only [i64_w, i32_w];rw [c45b0]) | skip)
        have H' := Aside0.mk H
        clear H
        go_wp2
        go_meet
        case rel => exact ⟨P9_, _, (true), (by first | rfl | (simp;done) | (simp [*];done)), H', ⟨by have := HJ10.out;first | omega | exact Nat.le_refl _⟩, ⟨by (with_reducible repeat (first | apply Kd.R_alloc | apply Kd.S_alloc | apply VL_alloc | apply Kd.R_drewN | apply Kd.S_drewN | apply VL_drewN | apply Kd.R_drew | apply Kd.S_drew | apply VL_drew));exact HO_4.out⟩, ⟨by (with_reducible repeat (first | apply Kd.R_alloc | apply Kd.S_alloc | apply VL_alloc | apply Kd.R_drewN | apply Kd.S_drewN | apply VL_drewN | apply Kd.R_drew | apply Kd.S_drew | apply VL_drew));exact HO_7.out⟩, ⟨by (with_reducible repeat (first | apply Kd.R_alloc | apply Kd.S_alloc | apply VL_alloc | apply Kd.R_drewN | apply Kd.S_drewN | apply VL_drewN | apply Kd.R_drew | apply Kd.S_drew | apply VL_drew));exact Kd.R_mono HO_266001.out (fun _ hk => trivial)⟩, ⟨by exact kP BK251.out⟩, ⟨by exact kP BK265.out⟩, ⟨by exact bB⟩⟩
       ·rw [if_neg c45] at H
        have c45b0 : decide (t276 < 0) = false := decide_eq_false c45
        clear c45
        (first | rw [c45b0] | (simp only [i64_w, i32_w];rw [c45b0]) | skip)
        replace H := Option.bind_eq_some_iff.mp H
        obtain ⟨t278, A460, H⟩ := H
        replace H : (if t278 = true then (laws_FnExactLeastCliqueCover.j1 kj10 t257 t260 t266 (t269 != t260) a0_0 l0_1) else (laws_FnExactLeastCliqueCover.j1 kj10 t257 t260 t266 true a0_0 l0_1)) = some r := H
        have A46 := Aside0.mk A460
        clear A460
        by_cases c47 : t278 = true
        ·subst c47
         have H1 : (laws_FnExactLeastCliqueCover.j1 kj10 t257 t260 t266 (t269 != t260) a0_0 l0_1) = some r := by rw [if_pos rfl] at H;exact H
         clear H
         have H := H1
         clear H1
         have H' := Aside0.mk H
         clear H
         obtain ⟨Ao48, co48, eo48⟩ := Kd.S_slice HO_7.out
         subst eo48
         obtain ⟨Ao49, co49, eo49⟩ := VL_slice HO_4.out
         subst eo49
         go_wp2_with (first | (go_at_call 20;(with_reducible refine (laws_eqIntSS.calls kj10 _ _ t266 _ _ t257 true _ ?side1 ?side2 ?side3 ?side4 A46.out).mono ?_);(case side1 => exact cP (Kd.S_reads' HO_7.out).2.2);(case side2 => exact (Kd.S_reads' HO_7.out).2.1);(case side3 => exact cP (VL_reads' HO_4.out).2.2);(case side4 => exact (VL_reads' HO_4.out).2.1);rintro e w' ⟨rfl, ⟨nd, rfl⟩⟩))
         go_meet
         case rel => exact ⟨P9_, _, ((t269 != t260)), (by first | rfl | (simp;done) | (simp [*];done)), H', ⟨by have := HJ10.out;first | omega | exact Nat.le_refl _⟩, ⟨by (with_reducible repeat (first | apply Kd.R_alloc | apply Kd.S_alloc | apply VL_alloc | apply Kd.R_drewN | apply Kd.S_drewN | apply VL_drewN | apply Kd.R_drew | apply Kd.S_drew | apply VL_drew));exact HO_4.out⟩, ⟨by (with_reducible repeat (first | apply Kd.R_alloc | apply Kd.S_alloc | apply VL_alloc | apply Kd.R_drewN | apply Kd.S_drewN | apply VL_drewN | apply Kd.R_drew | apply Kd.S_drew | apply VL_drew));exact HO_7.out⟩, ⟨by (with_reducible repeat (first | apply Kd.R_alloc | apply Kd.S_alloc | apply VL_alloc | apply Kd.R_drewN | apply Kd.S_drewN | apply VL_drewN | apply Kd.R_drew | apply Kd.S_drew | apply VL_drew));exact Kd.R_mono HO_266001.out (fun _ hk => trivial)⟩, ⟨by exact kP BK251.out⟩, ⟨by exact kP BK265.out⟩, ⟨by exact bB⟩⟩
        ·replace c47 := Bool.eq_false_iff.mpr c47
         subst c47
         have H1 : (laws_FnExactLeastCliqueCover.j1 kj10 t257 t260 t266 true a0_0 l0_1) = some r := by rw [if_neg (show ¬ (false = true) by decide)] at H;exact H
         clear H
         have H := H1
         clear H1
         have H' := Aside0.mk H
         clear H
         obtain ⟨Ao50, co50, eo50⟩ := Kd.S_slice HO_7.out
         subst eo50
         obtain ⟨Ao51, co51, eo51⟩ := VL_slice HO_4.out
         subst eo51
         go_wp2_with (first | (go_at_call 20;(with_reducible refine (laws_eqIntSS.calls kj10 _ _ t266 _ _ t257 false _ ?side1 ?side2 ?side3 ?side4 A46.out).mono ?_);(case side1 => exact cP (Kd.S_reads' HO_7.out).2.2);(case side2 => exact (Kd.S_reads' HO_7.out).2.1);(case side3 => exact cP (VL_reads' HO_4.out).2.2);(case side4 => exact (VL_reads' HO_4.out).2.1);rintro e w' ⟨rfl, ⟨nd, rfl⟩⟩))
         go_meet
         case rel => exact ⟨P9_, _, (true), (by first | rfl | (simp;done) | (simp [*];done)), H', ⟨by have := HJ10.out;first | omega | exact Nat.le_refl _⟩, ⟨by (with_reducible repeat (first | apply Kd.R_alloc | apply Kd.S_alloc | apply VL_alloc | apply Kd.R_drewN | apply Kd.S_drewN | apply VL_drewN | apply Kd.R_drew | apply Kd.S_drew | apply VL_drew));exact HO_4.out⟩, ⟨by (with_reducible repeat (first | apply Kd.R_alloc | apply Kd.S_alloc | apply VL_alloc | apply Kd.R_drewN | apply Kd.S_drewN | apply VL_drewN | apply Kd.R_drew | apply Kd.S_drew | apply VL_drew));exact HO_7.out⟩, ⟨by (with_reducible repeat (first | apply Kd.R_alloc | apply Kd.S_alloc | apply VL_alloc | apply Kd.R_drewN | apply Kd.S_drewN | apply VL_drewN | apply Kd.R_drew | apply Kd.S_drew | apply VL_drew));exact Kd.R_mono HO_266001.out (fun _ hk => trivial)⟩, ⟨by exact kP BK251.out⟩, ⟨by exact kP BK265.out⟩, ⟨by exact bB⟩⟩
      case rest =>
       clear HC37
       try clear c1
       try clear c2
       try clear p2
       try clear c3
       try clear c3b0
       try clear c4
       try clear c5
       try clear c9
       try clear c11
       try clear c14
       try clear c18
       try clear c19
       try clear c20
       try clear c21
       try clear c22
       try clear c27
       try clear c32
       try clear c35
       try clear c42
       try clear c45
       try clear c45b0
       try clear c47
       try clear hcz13_0
       try clear hcz13_1
       try clear hcz15_0
       try clear hcz15_1
       try clear hcz19_0
       try clear hcz19_1
       try clear hcz23_0
       try clear hcz23_1
       try clear hcz43_0
       try clear hcz43_1
       try clear hcz5_0
       try clear hcz5_1
       try clear hfz13_0
       try clear hfz13_1
       try clear hfz15_0
       try clear hfz15_1
       try clear hfz19_0
       try clear hfz19_1
       try clear hfz23_0
       try clear hfz23_1
       try clear hfz43_0
       try clear hfz43_1
       try clear hfz5_0
       try clear hfz5_1
       try clear p2
       obtain ⟨P9_, kq, x61_36, rfl, HA, HJ36, HO_4, HO_7, HO_266001, BK251, BK265, HB⟩ := hcut
       have hl266001_36 := (Kd.R_reads' HO_266001.out).1
       rw [hl266001_36] at HO_266001
       (try simp only [hl266001_36])
       (try simp only [hl266001_36] at BK251)
       (try simp only [hl266001_36] at BK265)
       (try simp only [hl266001_36] at HO_4)
       (try simp only [hl266001_36] at HO_7)
       cases kq with
       | zero => exact absurd HA.out (by simp [laws_FnExactLeastCliqueCover.j1])
       | succ kj36 =>
        have H := HA.out
        clear HA
        simp only [laws_FnExactLeastCliqueCover.j1] at H
        by_cases c52 : x61_36 = true
        ·subst c52
         have H1 : (some false) = some r := by rw [if_pos rfl] at H;exact H
         clear H
         have H := H1
         clear H1
         obtain rfl := Option.some.inj H
         go_wp2
         go_ret
         exact ⟨by first | rfl | (simp [errW_none, errW_some] <;> rfl) | (simp [*, errW_none, errW_some] <;> rfl), by exact bB⟩
        ·replace c52 := Bool.eq_false_iff.mpr c52
         subst c52
         have H1 : ((laws_markIntSS.f kj36 t266 1).bind fun bt279 => ((laws_heldIntSS.f kj36 bt279.2 1).bind fun t281 => (if t281 < 0 then (some false) else (if t281 = bt279.1 then ((laws_toGraph.f kj36 a0_0 l0_1).bind fun bt282 => ((impl_LeastCliqueCover.f kj36 bt282.1 bt282.2).bind fun bt286 => ((laws_eqIntSS.f kj36 bt286.1 t257).bind fun t290 => (if t290 = true then (laws_FnExactLeastCliqueCover.j2 kj36 bt279.2 bt279.1 (bt286.2 != t260)) else (laws_FnExactLeastCliqueCover.j2 kj36 bt279.2 bt279.1 true))))) else (some false))))) = some r := by rw [if_neg (show ¬ (false = true) by decide)] at H;exact H
         clear H
         have H := H1
         clear H1
         replace H := Option.bind_eq_some_iff.mp H
         obtain ⟨⟨t279, t280⟩, A530, H⟩ := H
         replace H : ((laws_heldIntSS.f kj36 t280 1).bind fun t281 => (if t281 < 0 then (some false) else (if t281 = t279 then ((laws_toGraph.f kj36 a0_0 l0_1).bind fun bt282 => ((impl_LeastCliqueCover.f kj36 bt282.1 bt282.2).bind fun bt286 => ((laws_eqIntSS.f kj36 bt286.1 t257).bind fun t290 => (if t290 = true then (laws_FnExactLeastCliqueCover.j2 kj36 t280 t279 (bt286.2 != t260)) else (laws_FnExactLeastCliqueCover.j2 kj36 t280 t279 true))))) else (some false)))) = some r := H
         have A53 := Aside0.mk A530
         clear A530
         replace H := Option.bind_eq_some_iff.mp H
         obtain ⟨t281, A540, H⟩ := H
         replace H : (if t281 < 0 then (some false) else (if t281 = t279 then ((laws_toGraph.f kj36 a0_0 l0_1).bind fun bt282 => ((impl_LeastCliqueCover.f kj36 bt282.1 bt282.2).bind fun bt286 => ((laws_eqIntSS.f kj36 bt286.1 t257).bind fun t290 => (if t290 = true then (laws_FnExactLeastCliqueCover.j2 kj36 t280 t279 (bt286.2 != t260)) else (laws_FnExactLeastCliqueCover.j2 kj36 t280 t279 true))))) else (some false))) = some r := H
         have A54 := Aside0.mk A540
         clear A540
         by_cases c55 : t281 < 0
         ·rw [if_pos c55] at H
          have c55b0 : decide (t281 < 0) = true := decide_eq_true c55
          clear c55
          obtain rfl := Option.some.inj H
          obtain ⟨Ao56, co56, eo56⟩ := Kd.S_slice HO_7.out
          subst eo56
          go_wp2_with (first | ((with_reducible refine gate_callee (f := 22) rfl ?_);refine goesL_ (some 64) rfl rfl Try.func22 (by kernel_rfl) rfl #[.slice Ao56 t266.length co56, .int .i64 1] rfl mM ?_;(with_reducible refine (laws_markIntSS.calls kj36 ?P9a0 (.slice Ao56 t266.length co56) t266 1 t279 t280 w _ ?side1 ?side2 A53.out).mono ?_);(case side1 => exact bB);(case side2 => exact mine9 HO_7.out);rintro e w57 ⟨rfl, hy0, hb, hkp⟩;refine ⟨_, rfl, ?_⟩;have n0_ := Aside0.mk (VL_mono (ok' := fun k_ => ¬ P9_ k_) (VL_keptB HO_4.out hkp (fun k_ hk_ hs_ => hk_ hs_.1)) (fun k_ hk_ => hk_.1));have n1_ := Aside0.mk (Kd.S_mono (ok' := fun k_ => True) hy0 (fun _ _ => trivial));have n2_ := Aside0.mk (Kd.R_mono (ok' := fun k_ => True) (Kd.R_keptB (mine9_R HO_266001.out (by decide)) hkp (fun k_ hk_ hs_ => hk_ hs_)) (fun k_ hk_ => trivial));have n3_ := Aside0.mk (blk_kept (by exact kP BK251.out) hkp (fun hs_ => mine9_block hs_ BK251.out (by decide)));have n4_ := Aside0.mk (blk_kept (by exact kP BK265.out) hkp (fun hs_ => mine9_block hs_ BK265.out (by decide)));have n5_ := Aside0.mk (hb);clear HO_4;clear HO_7;clear HO_266001;clear BK251;clear BK265;clear HB;have HO_4 := n0_;have HO_7 := n1_;have HO_266001 := n2_;have BK251 := n3_;have BK265 := n4_;have HB := n5_;clear n0_ n1_ n2_ n3_ n4_ n5_;(try clear hb);(try clear hkp);(try clear hy0)) | ((with_reducible refine gate_callee (f := 23) rfl ?_);refine goesL_ (some 67) rfl rfl Try.func23 (by kernel_rfl) rfl #[.slice Ao56 t280.length co56, .int .i64 1] rfl (by (try simp only [List.map_toArray, List.map_cons, List.map_nil]);first | done | (rw [show t280.length = t266.length from (Kd.S_reads' HO_7.out).1.symm] <;> rfl) | rfl | (simp only [List.length_drop, List.length_take];rfl)) ?_;(with_reducible refine (laws_heldIntSS.calls kj36 _ _ t280 1 t281 _ ?side1 ?side2 A54.out).mono ?_);(case side1 => exact cP (Kd.S_reads' HO_7.out).2.2);(case side2 => rw [show t280.length = t266.length from (Kd.S_reads' HO_7.out).1.symm];exact (Kd.S_reads' HO_7.out).2.1);rintro e w' ⟨rfl, ⟨nd, rfl⟩⟩;refine ⟨_, rfl, ?_⟩))
          go_ret
          exact ⟨by first | rfl | (simp [errW_none, errW_some] <;> rfl) | (simp [*, errW_none, errW_some] <;> rfl), by exact bB⟩
         ·rw [if_neg c55] at H
          have c55b0 : decide (t281 < 0) = false := decide_eq_false c55
          clear c55
          by_cases c58 : t281 = t279
          ·rw [if_pos c58] at H
           have c58b0 : (t281 == t279) = true := beq_iff_eq.mpr c58
           have c58b1 : (t281 != t279) = false := bne_eq_false_iff_eq.mpr c58
           clear c58
           replace H := Option.bind_eq_some_iff.mp H
           obtain ⟨⟨t282, t283⟩, A590, H⟩ := H
           replace H : ((impl_LeastCliqueCover.f kj36 t282 t283).bind fun bt286 => ((laws_eqIntSS.f kj36 bt286.1 t257).bind fun t290 => (if t290 = true then (laws_FnExactLeastCliqueCover.j2 kj36 t280 t279 (bt286.2 != t260)) else (laws_FnExactLeastCliqueCover.j2 kj36 t280 t279 true)))) = some r := H
           have A59 := Aside0.mk A590
           clear A590
           replace H := Option.bind_eq_some_iff.mp H
           obtain ⟨⟨t286, t289⟩, A600, H⟩ := H
           replace H : ((laws_eqIntSS.f kj36 t286 t257).bind fun t290 => (if t290 = true then (laws_FnExactLeastCliqueCover.j2 kj36 t280 t279 (t289 != t260)) else (laws_FnExactLeastCliqueCover.j2 kj36 t280 t279 true))) = some r := H
           have A60 := Aside0.mk A600
           clear A600
           have HC61 := Aside0.mk H
           clear H
           obtain ⟨Ao62, co62, eo62⟩ := Kd.S_slice HO_7.out
           subst eo62
           go_upto_region 25 with (first | ((with_reducible refine gate_callee (f := 22) rfl ?_);refine goesL_ (some 64) rfl rfl Try.func22 (by kernel_rfl) rfl #[.slice Ao62 t266.length co62, .int .i64 1] rfl mM ?_;(with_reducible refine (laws_markIntSS.calls kj36 ?P9a1 (.slice Ao62 t266.length co62) t266 1 t279 t280 w _ ?side1 ?side2 A53.out).mono ?_);(case side1 => exact bB);(case side2 => exact mine9 HO_7.out);rintro e w63 ⟨rfl, hy0, hb, hkp⟩;refine ⟨_, rfl, ?_⟩;have n0_ := Aside0.mk (VL_mono (ok' := fun k_ => ¬ P9_ k_) (VL_keptB HO_4.out hkp (fun k_ hk_ hs_ => hk_ hs_.1)) (fun k_ hk_ => hk_.1));have n1_ := Aside0.mk (Kd.S_mono (ok' := fun k_ => True) hy0 (fun _ _ => trivial));have n2_ := Aside0.mk (Kd.R_mono (ok' := fun k_ => True) (Kd.R_keptB (mine9_R HO_266001.out (by decide)) hkp (fun k_ hk_ hs_ => hk_ hs_)) (fun k_ hk_ => trivial));have n3_ := Aside0.mk (blk_kept (by exact kP BK251.out) hkp (fun hs_ => mine9_block hs_ BK251.out (by decide)));have n4_ := Aside0.mk (blk_kept (by exact kP BK265.out) hkp (fun hs_ => mine9_block hs_ BK265.out (by decide)));have n5_ := Aside0.mk (hb);clear HO_4;clear HO_7;clear HO_266001;clear BK251;clear BK265;clear HB;have HO_4 := n0_;have HO_7 := n1_;have HO_266001 := n2_;have BK251 := n3_;have BK265 := n4_;have HB := n5_;clear n0_ n1_ n2_ n3_ n4_ n5_;(try clear hb);(try clear hkp);(try clear hy0)) | ((with_reducible refine gate_callee (f := 23) rfl ?_);refine goesL_ (some 67) rfl rfl Try.func23 (by kernel_rfl) rfl #[.slice Ao62 t280.length co62, .int .i64 1] rfl (by (try simp only [List.map_toArray, List.map_cons, List.map_nil]);first | done | (rw [show t280.length = t266.length from (Kd.S_reads' HO_7.out).1.symm] <;> rfl) | rfl | (simp only [List.length_drop, List.length_take];rfl)) ?_;(with_reducible refine (laws_heldIntSS.calls kj36 _ _ t280 1 t281 _ ?side1 ?side2 A54.out).mono ?_);(case side1 => exact cP (Kd.S_reads' HO_7.out).2.2);(case side2 => rw [show t280.length = t266.length from (Kd.S_reads' HO_7.out).1.symm];exact (Kd.S_reads' HO_7.out).2.1);rintro e w' ⟨rfl, ⟨nd, rfl⟩⟩;refine ⟨_, rfl, ?_⟩;have hnb64 := NB251_265.out;have hnc64 := NB265_251.out;have hcz65_0 : w63.cell? ⟨gb251, 0, none⟩ = some (.int .i64 a0_0) := (blk_cell BK251.out 0).trans rfl;have hcz65_1 : w63.cell? ⟨gb251, 1, none⟩ = some (.slice A0_1 l0_1.length c0_1) := (blk_cell BK251.out 1).trans rfl;have hfz65_0 := blk_frozen BK251.out 0;have hfz65_1 := blk_frozen BK251.out 1) | ((with_reducible refine gate_callee (f := 11) rfl ?_);refine goesL_ (some 75) rfl rfl Try.func11 (by kernel_rfl) rfl #[.agg #[.int .i64 a0_0, .slice A0_1 l0_1.length c0_1]] rfl mM ?_;(with_reducible refine (laws_toGraph.calls kj36 a0_0 _ _ l0_1 t282 t283 _ ?side1 ?side2 A59.out).mono ?_);(case side1 => exact cP (Kd.C_below HR0_1.out (by repeat (first | (with_reducible first | exact HB.out | apply below_alloc | apply pw_below_drewN | apply below_drew1 | refine below_set ?_ GE251.out | refine below_set ?_ GE265.out) | exact HB.out))));(case side2 => exact HC0_1.out);rintro e w66 ⟨v284, rfl, ho0, hb⟩;refine ⟨_, rfl, ?_⟩;have n0_ := Aside0.mk (VL_below (by (with_reducible repeat (first | apply Kd.R_alloc | apply Kd.S_alloc | apply VL_alloc | apply Kd.R_drewN | apply Kd.S_drewN | apply VL_drewN | apply Kd.R_drew | apply Kd.S_drew | apply VL_drew));exact HO_4.out) hb);have n1_ := Aside0.mk (Kd.S_below (by (with_reducible repeat (first | apply Kd.R_alloc | apply Kd.S_alloc | apply VL_alloc | apply Kd.R_drewN | apply Kd.S_drewN | apply VL_drewN | apply Kd.R_drew | apply Kd.S_drew | apply VL_drew));exact HO_7.out) hb);have n2_ := Aside0.mk (Kd.R_elder' (by (with_reducible repeat (first | apply Kd.R_alloc | apply Kd.S_alloc | apply VL_alloc | apply Kd.R_drewN | apply Kd.S_drewN | apply VL_drewN | apply Kd.R_drew | apply Kd.S_drew | apply VL_drew));exact HO_266001.out) (Kd.R_base ho0) hb);have n3_ := Aside0.mk (Kd.R_lower (Kd.R_new' ho0 (Kd.R_lt (by (with_reducible repeat (first | apply Kd.R_alloc | apply Kd.S_alloc | apply VL_alloc | apply Kd.R_drewN | apply Kd.S_drewN | apply VL_drewN | apply Kd.R_drew | apply Kd.S_drew | apply VL_drew));exact HO_266001.out))) (below_size (by exact bB)));have n4_ := Aside0.mk (blk_below (g := gb251) (o := .cells #[.int .i64 a0_0, .slice A0_1 l0_1.length c0_1] 24 (0, 0)) (by exact kP BK251.out) hb);have n5_ := Aside0.mk (blk_below (g := gb265) (o := .cells #[.int .i64 t261, .slice Ao24 t277.length co24] 29 (0, 0)) (by exact kP BK265.out) hb);have n6_ := Aside0.mk (below_step (by exact bB) hb);clear HO_4;clear HO_7;clear HO_266001;clear BK251;clear BK265;clear HB;have HO_4 := n0_;have HO_7 := n1_;have HO_266001 := n2_;have HO285 := n3_;have BK251 := n4_;have BK265 := n5_;have HB := n6_;clear n0_ n1_ n2_ n3_ n4_ n5_ n6_;(try clear hb);(try clear hb2);(try clear hk);(try clear hi);(try clear ho0);obtain ⟨Ao67, co67, eo67⟩ := Kd.R_slice HO285.out;subst eo67) | ((with_reducible refine gate_callee (f := 19) rfl ?_);refine goesL_ (some 76) rfl rfl Try.func19 (by kernel_rfl) rfl #[.agg #[.int .i64 t282, .slice Ao67 t283.length co67]] rfl mM ?_;(with_reducible refine (impl_LeastCliqueCover.calls kj36 t282 _ _ t283 t286 t289 _ ?side1 ?side2 A60.out).mono ?_);(case side1 => exact cP (Kd.R_reads' HO285.out).2.2);(case side2 => exact (Kd.R_reads' HO285.out).2.1);rintro e w68 ⟨v287, rfl, ho0, hb⟩;refine ⟨_, rfl, ?_⟩;have n0_ := Aside0.mk (VL_elder' (by (with_reducible repeat (first | apply Kd.R_alloc | apply Kd.S_alloc | apply VL_alloc | apply Kd.R_drewN | apply Kd.S_drewN | apply VL_drewN | apply Kd.R_drew | apply Kd.S_drew | apply VL_drew));exact HO_4.out) (Kd.S_base ho0) hb);have n1_ := Aside0.mk (Kd.S_elder' (by (with_reducible repeat (first | apply Kd.R_alloc | apply Kd.S_alloc | apply VL_alloc | apply Kd.R_drewN | apply Kd.S_drewN | apply VL_drewN | apply Kd.R_drew | apply Kd.S_drew | apply VL_drew));exact HO_7.out) (Kd.S_base ho0) hb);have n2_ := Aside0.mk (Kd.R_below (by (with_reducible repeat (first | apply Kd.R_alloc | apply Kd.S_alloc | apply VL_alloc | apply Kd.R_drewN | apply Kd.S_drewN | apply VL_drewN | apply Kd.R_drew | apply Kd.S_drew | apply VL_drew));exact HO_266001.out) hb);have n3_ := Aside0.mk (Kd.R_below (by (with_reducible repeat (first | apply Kd.R_alloc | apply Kd.S_alloc | apply VL_alloc | apply Kd.R_drewN | apply Kd.S_drewN | apply VL_drewN | apply Kd.R_drew | apply Kd.S_drew | apply VL_drew));exact HO285.out) hb);have n4_ := Aside0.mk (Kd.S_lower (Kd.S_new' (Kd.S_new' ho0 (VL_lt (by (with_reducible repeat (first | apply Kd.R_alloc | apply Kd.S_alloc | apply VL_alloc | apply Kd.R_drewN | apply Kd.S_drewN | apply VL_drewN | apply Kd.R_drew | apply Kd.S_drew | apply VL_drew));exact HO_4.out))) (Kd.S_lt (by (with_reducible repeat (first | apply Kd.R_alloc | apply Kd.S_alloc | apply VL_alloc | apply Kd.R_drewN | apply Kd.S_drewN | apply VL_drewN | apply Kd.R_drew | apply Kd.S_drew | apply VL_drew));exact HO_7.out))) (below_size (by exact bB)));have n5_ := Aside0.mk (blk_below (g := gb251) (o := .cells #[.int .i64 a0_0, .slice A0_1 l0_1.length c0_1] 24 (0, 0)) (by exact kP BK251.out) hb);have n6_ := Aside0.mk (blk_below (g := gb265) (o := .cells #[.int .i64 t261, .slice Ao24 t277.length co24] 29 (0, 0)) (by exact kP BK265.out) hb);have n7_ := Aside0.mk (below_step (by exact bB) hb);clear HO_4;clear HO_7;clear HO_266001;clear HO285;clear BK251;clear BK265;clear HB;have HO_4 := n0_;have HO_7 := n1_;have HO_266001 := n2_;have HO285 := n3_;have HO288 := n4_;have BK251 := n5_;have BK265 := n6_;have HB := n7_;clear n0_ n1_ n2_ n3_ n4_ n5_ n6_ n7_;(try clear hb);(try clear hb2);(try clear hk);(try clear hi);(try clear ho0)))
           (try simp only [Act.put, List.setIfInBounds_toArray, List.set_cons_zero, List.set_cons_succ])
           go_cut [87] (fun v87 wc => ∃ (kq : Nat) (x87_60 : Bool), v87 = .bool x87_60 ∧ Aside0 (laws_FnExactLeastCliqueCover.j2 kq t280 t279 x87_60 = some r) ∧ Aside0 (kq ≤ kj36) ∧ Aside0 (Kd.S (Kd.slice 3 (Kd.int .i64)) 25 wc w.heap.size (fun k_ => True) (.slice Ao62 t266.length co62) t280) ∧ Aside0 (Kd.R k80 80 wc w.heap.size (fun _ => True) (.slice Ao24 t277.length co24) t277) ∧ Aside0 (wc.heap[gb251]? = some (.cells #[.int .i64 a0_0, (.slice A0_1 l0_1.length c0_1)] 24 (0, 0))) ∧ Aside0 (wc.heap[gb265]? = some (.cells #[.int .i64 t261, (.slice Ao24 t277.length co24)] 29 (0, 0))) ∧ Aside0 (Below w.heap.size w wc))
           case first =>
            have H := HC61.out
            clear HC61
            replace H := Option.bind_eq_some_iff.mp H
            obtain ⟨t290, A690, H⟩ := H
            replace H : (if t290 = true then (laws_FnExactLeastCliqueCover.j2 kj36 t280 t279 (t289 != t260)) else (laws_FnExactLeastCliqueCover.j2 kj36 t280 t279 true)) = some r := H
            have A69 := Aside0.mk A690
            clear A690
            by_cases c70 : t290 = true
            ·subst c70
             have H1 : (laws_FnExactLeastCliqueCover.j2 kj36 t280 t279 (t289 != t260)) = some r := by rw [if_pos rfl] at H;exact H
             clear H
             have H := H1
             clear H1
             have H' := Aside0.mk H
             clear H
             obtain ⟨Ao71, co71, eo71⟩ := Kd.S_slice HO288.out
             subst eo71
             obtain ⟨Ao72, co72, eo72⟩ := VL_slice HO_4.out
             subst eo72
             go_wp2_with (first | ((with_reducible refine gate_callee (f := 20) rfl ?_);refine goesL_ (some 81) rfl rfl Try.func20 (by kernel_rfl) rfl #[.slice Ao71 t286.length co71, .slice Ao72 t257.length co72] rfl mM ?_;(with_reducible refine (laws_eqIntSS.calls kj36 _ _ t286 _ _ t257 true _ ?side1 ?side2 ?side3 ?side4 A69.out).mono ?_);(case side1 => exact cP (Kd.S_reads' HO288.out).2.2);(case side2 => exact (Kd.S_reads' HO288.out).2.1);(case side3 => exact cP (VL_reads' HO_4.out).2.2);(case side4 => exact (VL_reads' HO_4.out).2.1);rintro e w' ⟨rfl, ⟨nd, rfl⟩⟩;refine ⟨_, rfl, ?_⟩))
             go_meet
             case rel => exact ⟨_, ((t289 != t260)), (by first | rfl | (simp;done) | (simp [*];done)), H', ⟨by have := HJ10.out;have := HJ36.out;first | omega | exact Nat.le_refl _⟩, ⟨by (try simp only [hl266001_36]);(with_reducible repeat (first | apply Kd.R_alloc | apply Kd.S_alloc | apply VL_alloc | apply Kd.R_drewN | apply Kd.S_drewN | apply VL_drewN | apply Kd.R_drew | apply Kd.S_drew | apply VL_drew));exact Kd.S_mono HO_7.out (fun _ hk => by first | exact hk | exact hk.2 | exact hk.1 | exact hk.2.1 | exact ⟨hk.1, hk.2.1⟩ | trivial)⟩, ⟨by (try simp only [hl266001_36]);(with_reducible repeat (first | apply Kd.R_alloc | apply Kd.S_alloc | apply VL_alloc | apply Kd.R_drewN | apply Kd.S_drewN | apply VL_drewN | apply Kd.R_drew | apply Kd.S_drew | apply VL_drew));exact Kd.R_mono HO_266001.out (fun _ hk => trivial)⟩, ⟨by (try simp only [hl266001_36]);exact kP BK251.out⟩, ⟨by (try simp only [hl266001_36]);exact kP BK265.out⟩, ⟨by exact bB⟩⟩
            ·replace c70 := Bool.eq_false_iff.mpr c70
             subst c70
             have H1 : (laws_FnExactLeastCliqueCover.j2 kj36 t280 t279 true) = some r := by rw [if_neg (show ¬ (false = true) by decide)] at H;exact H
             clear H
             have H := H1
             clear H1
             have H' := Aside0.mk H
             clear H
             obtain ⟨Ao73, co73, eo73⟩ := Kd.S_slice HO288.out
             subst eo73
             obtain ⟨Ao74, co74, eo74⟩ := VL_slice HO_4.out
             subst eo74
             go_wp2_with (first | ((with_reducible refine gate_callee (f := 20) rfl ?_);refine goesL_ (some 81) rfl rfl Try.func20 (by kernel_rfl) rfl #[.slice Ao73 t286.length co73, .slice Ao74 t257.length co74] rfl mM ?_;(with_reducible refine (laws_eqIntSS.calls kj36 _ _ t286 _ _ t257 false _ ?side1 ?side2 ?side3 ?side4 A69.out).mono ?_);(case side1 => exact cP (Kd.S_reads' HO288.out).2.2);(case side2 => exact (Kd.S_reads' HO288.out).2.1);(case side3 => exact cP (VL_reads' HO_4.out).2.2);(case side4 => exact (VL_reads' HO_4.out).2.1);rintro e w' ⟨rfl, ⟨nd, rfl⟩⟩;refine ⟨_, rfl, ?_⟩))
             go_meet
             case rel => exact ⟨_, (true), (by first | rfl | (simp;done) | (simp [*];done)), H', ⟨by have := HJ10.out;have := HJ36.out;first | omega | exact Nat.le_refl _⟩, ⟨by (try simp only [hl266001_36]);(with_reducible repeat (first | apply Kd.R_alloc | apply Kd.S_alloc | apply VL_alloc | apply Kd.R_drewN | apply Kd.S_drewN | apply VL_drewN | apply Kd.R_drew | apply Kd.S_drew | apply VL_drew));exact Kd.S_mono HO_7.out (fun _ hk => by first | exact hk | exact hk.2 | exact hk.1 | exact hk.2.1 | exact ⟨hk.1, hk.2.1⟩ | trivial)⟩, ⟨by (try simp only [hl266001_36]);(with_reducible repeat (first | apply Kd.R_alloc | apply Kd.S_alloc | apply VL_alloc | apply Kd.R_drewN | apply Kd.S_drewN | apply VL_drewN | apply Kd.R_drew | apply Kd.S_drew | apply VL_drew));exact Kd.R_mono HO_266001.out (fun _ hk => trivial)⟩, ⟨by (try simp only [hl266001_36]);exact kP BK251.out⟩, ⟨by (try simp only [hl266001_36]);exact kP BK265.out⟩, ⟨by exact bB⟩⟩
           case rest =>
            clear HC61
            try clear c1
            try clear c2
            try clear p2
            try clear c3
            try clear c3b0
            try clear c4
            try clear c5
            try clear c6
            try clear c7
            try clear c9
            try clear c11
            try clear c14
            try clear c18
            try clear c19
            try clear c20
            try clear c21
            try clear c22
            try clear c23
            try clear c27
            try clear c32
            try clear c35
            try clear c42
            try clear c45
            try clear c45b0
            try clear c47
            try clear c52
            try clear c55
            try clear c55b0
            try clear c58
            try clear c58b0
            try clear c58b1
            try clear c64
            try clear c70
            try clear hcz13_0
            try clear hcz13_1
            try clear hcz15_0
            try clear hcz15_1
            try clear hcz19_0
            try clear hcz19_1
            try clear hcz23_0
            try clear hcz23_1
            try clear hcz43_0
            try clear hcz43_1
            try clear hcz5_0
            try clear hcz5_1
            try clear hcz65_0
            try clear hcz65_1
            try clear hfz13_0
            try clear hfz13_1
            try clear hfz15_0
            try clear hfz15_1
            try clear hfz19_0
            try clear hfz19_1
            try clear hfz23_0
            try clear hfz23_1
            try clear hfz43_0
            try clear hfz43_1
            try clear hfz5_0
            try clear hfz5_1
            try clear hfz65_0
            try clear hfz65_1
            try clear p2
            obtain ⟨kq, x87_60, rfl, HA, HJ60, HO_7, HO_266001, BK251, BK265, HB⟩ := hcut
            have hl7_60 := (Kd.S_reads' HO_7.out).1
            rw [hl7_60] at HO_7
            (try simp only [hl7_60])
            (try simp only [hl7_60] at BK251)
            (try simp only [hl7_60] at BK265)
            (try simp only [hl7_60] at HO_266001)
            cases kq with
            | zero => exact absurd HA.out (by simp [laws_FnExactLeastCliqueCover.j2])
            | succ kj60 =>
             have H := HA.out
             clear HA
             simp only [laws_FnExactLeastCliqueCover.j2] at H
             by_cases c75 : x87_60 = true
             ·subst c75
              have H1 : (some false) = some r := by rw [if_pos rfl] at H;exact H
              clear H
              have H := H1
              clear H1
              obtain rfl := Option.some.inj H
              go_wp2
              go_ret
              exact ⟨by first | rfl | (simp [errW_none, errW_some] <;> rfl) | (simp [*, errW_none, errW_some] <;> rfl), by exact bB⟩
             ·replace c75 := Bool.eq_false_iff.mpr c75
              subst c75
              have H1 : ((laws_heldIntSS.f kj60 t280 1).bind fun t291 => (if t291 < 0 then (some false) else (if t291 = t279 then (some true) else (some false)))) = some r := by rw [if_neg (show ¬ (false = true) by decide)] at H;exact H
              clear H
              have H := H1
              clear H1
              replace H := Option.bind_eq_some_iff.mp H
              obtain ⟨t291, A760, H⟩ := H
              replace H : (if t291 < 0 then (some false) else (if t291 = t279 then (some true) else (some false))) = some r := H
              have A76 := Aside0.mk A760
              clear A760
              by_cases c77 : t291 < 0
              ·rw [if_pos c77] at H
               have c77b0 : decide (t291 < 0) = true := decide_eq_true c77
               clear c77
               obtain rfl := Option.some.inj H
               go_wp2_with (first | ((with_reducible refine gate_callee (f := 23) rfl ?_);refine goesL_ (some 90) rfl rfl Try.func23 (by kernel_rfl) rfl #[.slice Ao62 t280.length co62, .int .i64 1] rfl mM ?_;(with_reducible refine (laws_heldIntSS.calls kj60 _ _ t280 1 t291 _ ?side1 ?side2 A76.out).mono ?_);(case side1 => exact cP (Kd.S_reads' HO_7.out).2.2);(case side2 => exact (Kd.S_reads' HO_7.out).2.1);rintro e w' ⟨rfl, ⟨nd, rfl⟩⟩;refine ⟨_, rfl, ?_⟩))
               go_ret
               exact ⟨by first | rfl | (simp [errW_none, errW_some] <;> rfl) | (simp [*, errW_none, errW_some] <;> rfl), by exact bB⟩
              ·rw [if_neg c77] at H
               have c77b0 : decide (t291 < 0) = false := decide_eq_false c77
               clear c77
               by_cases c78 : t291 = t279
               ·rw [if_pos c78] at H
                have c78b0 : (t291 == t279) = true := beq_iff_eq.mpr c78
                have c78b1 : (t291 != t279) = false := bne_eq_false_iff_eq.mpr c78
                clear c78
                obtain rfl := Option.some.inj H
                go_wp2_with (first | ((with_reducible refine gate_callee (f := 23) rfl ?_);refine goesL_ (some 90) rfl rfl Try.func23 (by kernel_rfl) rfl #[.slice Ao62 t280.length co62, .int .i64 1] rfl mM ?_;(with_reducible refine (laws_heldIntSS.calls kj60 _ _ t280 1 t291 _ ?side1 ?side2 A76.out).mono ?_);(case side1 => exact cP (Kd.S_reads' HO_7.out).2.2);(case side2 => exact (Kd.S_reads' HO_7.out).2.1);rintro e w' ⟨rfl, ⟨nd, rfl⟩⟩;refine ⟨_, rfl, ?_⟩))
                go_ret
                exact ⟨by first | rfl | (simp [errW_none, errW_some] <;> rfl) | (simp [*, errW_none, errW_some] <;> rfl), by exact bB⟩
               ·rw [if_neg c78] at H
                have c78b0 : (t291 == t279) = false := beq_eq_false_iff_ne.mpr c78
                have c78b1 : (t291 != t279) = true := bne_iff_ne.mpr c78
                obtain rfl := Option.some.inj H
                go_wp2_with (first | ((with_reducible refine gate_callee (f := 23) rfl ?_);refine goesL_ (some 90) rfl rfl Try.func23 (by kernel_rfl) rfl #[.slice Ao62 t280.length co62, .int .i64 1] rfl mM ?_;(with_reducible refine (laws_heldIntSS.calls kj60 _ _ t280 1 t291 _ ?side1 ?side2 A76.out).mono ?_);(case side1 => exact cP (Kd.S_reads' HO_7.out).2.2);(case side2 => exact (Kd.S_reads' HO_7.out).2.1);rintro e w' ⟨rfl, ⟨nd, rfl⟩⟩;refine ⟨_, rfl, ?_⟩))
                go_ret
                exact ⟨by first | rfl | (simp [errW_none, errW_some] <;> rfl) | (simp [*, errW_none, errW_some] <;> rfl), by exact bB⟩
          ·rw [if_neg c58] at H
           have c58b0 : (t281 == t279) = false := beq_eq_false_iff_ne.mpr c58
           have c58b1 : (t281 != t279) = true := bne_iff_ne.mpr c58
           obtain rfl := Option.some.inj H
           obtain ⟨Ao79, co79, eo79⟩ := Kd.S_slice HO_7.out
           subst eo79
           go_wp2_with (first | ((with_reducible refine gate_callee (f := 22) rfl ?_);refine goesL_ (some 64) rfl rfl Try.func22 (by kernel_rfl) rfl #[.slice Ao79 t266.length co79, .int .i64 1] rfl mM ?_;(with_reducible refine (laws_markIntSS.calls kj36 ?P9a2 (.slice Ao79 t266.length co79) t266 1 t279 t280 w _ ?side1 ?side2 A53.out).mono ?_);(case side1 => exact bB);(case side2 => exact mine9 HO_7.out);rintro e w80 ⟨rfl, hy0, hb, hkp⟩;refine ⟨_, rfl, ?_⟩;have n0_ := Aside0.mk (VL_mono (ok' := fun k_ => ¬ P9_ k_) (VL_keptB HO_4.out hkp (fun k_ hk_ hs_ => hk_ hs_.1)) (fun k_ hk_ => hk_.1));have n1_ := Aside0.mk (Kd.S_mono (ok' := fun k_ => True) hy0 (fun _ _ => trivial));have n2_ := Aside0.mk (Kd.R_mono (ok' := fun k_ => True) (Kd.R_keptB (mine9_R HO_266001.out (by decide)) hkp (fun k_ hk_ hs_ => hk_ hs_)) (fun k_ hk_ => trivial));have n3_ := Aside0.mk (blk_kept (by exact kP BK251.out) hkp (fun hs_ => mine9_block hs_ BK251.out (by decide)));have n4_ := Aside0.mk (blk_kept (by exact kP BK265.out) hkp (fun hs_ => mine9_block hs_ BK265.out (by decide)));have n5_ := Aside0.mk (hb);clear HO_4;clear HO_7;clear HO_266001;clear BK251;clear BK265;clear HB;have HO_4 := n0_;have HO_7 := n1_;have HO_266001 := n2_;have BK251 := n3_;have BK265 := n4_;have HB := n5_;clear n0_ n1_ n2_ n3_ n4_ n5_;(try clear hb);(try clear hkp);(try clear hy0)) | ((with_reducible refine gate_callee (f := 23) rfl ?_);refine goesL_ (some 67) rfl rfl Try.func23 (by kernel_rfl) rfl #[.slice Ao79 t280.length co79, .int .i64 1] rfl (by (try simp only [List.map_toArray, List.map_cons, List.map_nil]);first | done | (rw [show t280.length = t266.length from (Kd.S_reads' HO_7.out).1.symm] <;> rfl) | rfl | (simp only [List.length_drop, List.length_take];rfl)) ?_;(with_reducible refine (laws_heldIntSS.calls kj36 _ _ t280 1 t281 _ ?side1 ?side2 A54.out).mono ?_);(case side1 => exact cP (Kd.S_reads' HO_7.out).2.2);(case side2 => rw [show t280.length = t266.length from (Kd.S_reads' HO_7.out).1.symm];exact (Kd.S_reads' HO_7.out).2.1);rintro e w' ⟨rfl, ⟨nd, rfl⟩⟩;refine ⟨_, rfl, ?_⟩))
           go_ret
           exact ⟨by first | rfl | (simp [errW_none, errW_some] <;> rfl) | (simp [*, errW_none, errW_some] <;> rfl), by exact bB⟩
     ·replace c35 := Bool.eq_false_iff.mpr c35
      subst c35
      have H1 : (some false) = some r := by rw [if_neg (show ¬ (false = true) by decide)] at H;exact H
      clear H
      have H := H1
      clear H1
      obtain rfl := Option.some.inj H
      try go_wp2
      have n0_ := Aside0.mk (VL_drew HO_4.out)
      have n1_ := Aside0.mk (Kd.S_drew HO_7.out)
      have n2_ := Aside0.mk (Kd.R_drew HO_266001.out)
      have n3_ := Aside0.mk (blk_drew BK251.out)
      have n4_ := Aside0.mk (blk_drew BK265.out)
      have n5_ := Aside0.mk (below_drew1 HB.out)
      clear HO_4
      clear HO_7
      clear HO_266001
      clear BK251
      clear BK265
      clear HB
      have HO_4 := n0_
      have HO_7 := n1_
      have HO_266001 := n2_
      have BK251 := n3_
      have BK265 := n4_
      have HB := n5_
      clear n0_ n1_ n2_ n3_ n4_ n5_
      refine start_ (n := 5) (S := fun w' => w'.cell? ⟨gb265, 0, none⟩ = some (.int .i64 t261) ∧ w'.cell? ⟨gb265, 1, none⟩ = some (.slice Ao24 t262.length co24) ∧ w'.cell? ⟨gb251, 0, none⟩ = some (.int .i64 a0_0) ∧ w'.cell? ⟨gb251, 1, none⟩ = some (.slice A0_1 l0_1.length c0_1)) (ds := []) #[false,false,false,false,false] (by kernel_rfl) rfl rfl ⟨(blk_cell BK265.out 0).trans rfl, (blk_cell BK265.out 1).trans rfl, (blk_cell BK251.out 0).trans rfl, (blk_cell BK251.out 1).trans rfl⟩ (fun hHeld => ?_)
      generalize wc.drew = w81 at HO_4 HO_7 HO_266001 BK251 BK265 HB hHeld ⊢
      refine take_ (i := 0) (N := some 41) (v := ?_) (a' := ?_) #[true,false,false,false,false] rfl rfl (by kernel_rfl) (fun _ _ _ h => h) (Or.inl ⟨by rfl, ?_⟩) hHeld ?_ ?_
      rotate_left
      ·rintro w' ⟨s0, s1, s2, s3⟩
       go_simp
       with_reducible rfl
      rotate_left
      ·simp only [Act.put, List.setIfInBounds_toArray, List.set_cons_zero, List.set_cons_succ, i64_w, i32_w]
       rfl
      refine take_ (i := 1) (N := some 42) (v := ?_) (a' := ?_) #[true,true,false,false,false] rfl rfl (by kernel_rfl) (fun _ _ _ h => h) (Or.inl ⟨by rfl, ?_⟩) hHeld ?_ ?_
      rotate_left
      ·rintro w' ⟨s0, s1, s2, s3⟩
       go_simp
       with_reducible rfl
      rotate_left
      ·simp only [Act.put, List.setIfInBounds_toArray, List.set_cons_zero, List.set_cons_succ, i64_w, i32_w]
       rfl
      refine one_ (i := 2) (N := some 43) #[true,true,true,false,false] rfl rfl (by kernel_rfl) (by decide) (fun K hK => ?_)
      refine goes_ Try.func11 (by kernel_rfl) rfl #[.agg #[.int .i64 a0_0, .slice A0_1 l0_1.length c0_1]] (by rfl) rfl rfl mM ?_
      with_reducible refine (laws_toGraph.calls kj10 a0_0 _ _ l0_1 t271 t272 _ ?side1 ?side2 A33.out).mono ?_
      (case side1 => exact cP (Kd.C_below HR0_1.out HB.out))
      (case side2 => exact HC0_1.out)
      rintro e w82 ⟨v273, rfl, ho0, hb⟩
      refine ⟨_, rfl, ?_⟩
      have n0_ := Aside0.mk (VL_below (by (with_reducible repeat (first | apply Kd.R_alloc | apply Kd.S_alloc | apply VL_alloc | apply Kd.R_drewN | apply Kd.S_drewN | apply VL_drewN | apply Kd.R_drew | apply Kd.S_drew | apply VL_drew));exact HO_4.out) hb)
      have n1_ := Aside0.mk (Kd.S_below (by (with_reducible repeat (first | apply Kd.R_alloc | apply Kd.S_alloc | apply VL_alloc | apply Kd.R_drewN | apply Kd.S_drewN | apply VL_drewN | apply Kd.R_drew | apply Kd.S_drew | apply VL_drew));exact HO_7.out) hb)
      have n2_ := Aside0.mk (Kd.R_elder' (by (with_reducible repeat (first | apply Kd.R_alloc | apply Kd.S_alloc | apply VL_alloc | apply Kd.R_drewN | apply Kd.S_drewN | apply VL_drewN | apply Kd.R_drew | apply Kd.S_drew | apply VL_drew));exact HO_266001.out) (Kd.R_base ho0) hb)
      have n3_ := Aside0.mk (Kd.R_lower (Kd.R_new' ho0 (Kd.R_lt (by (with_reducible repeat (first | apply Kd.R_alloc | apply Kd.S_alloc | apply VL_alloc | apply Kd.R_drewN | apply Kd.S_drewN | apply VL_drewN | apply Kd.R_drew | apply Kd.S_drew | apply VL_drew));exact HO_266001.out))) (below_size (by exact bB)))
      have n4_ := Aside0.mk (blk_below (g := gb251) (o := .cells #[.int .i64 a0_0, .slice A0_1 l0_1.length c0_1] 24 (0, 0)) (by exact kP BK251.out) hb)
      have n5_ := Aside0.mk (blk_below (g := gb265) (o := .cells #[.int .i64 t261, .slice Ao24 t262.length co24] 29 (0, 0)) (by exact kP BK265.out) hb)
      have n6_ := Aside0.mk (below_step (by exact bB) hb)
      clear HO_4
      clear HO_7
      clear HO_266001
      clear BK251
      clear BK265
      clear HB
      have HO_4 := n0_
      have HO_7 := n1_
      have HO_266001 := n2_
      have HO274 := n3_
      have BK251 := n4_
      have BK265 := n5_
      have HB := n6_
      clear n0_ n1_ n2_ n3_ n4_ n5_ n6_
      (try clear hb)
      (try clear hb2)
      (try clear hk)
      (try clear hi)
      (try clear ho0)
      obtain ⟨Ao83, co83, eo83⟩ := Kd.R_slice HO274.out
      (first | subst eo83 | (injection eo83 with f1_ f2_ f3_;have f4_ := f1_.symm;have f5_ := f3_.symm;clear f1_ f2_ f3_;subst f4_;subst f5_))
      refine hK.out _ _ ⟨(blk_cell BK265.out 0).trans rfl, (blk_cell BK265.out 1).trans rfl, (blk_cell BK251.out 0).trans rfl, (blk_cell BK251.out 1).trans rfl⟩ (fun hHeld => ?_)
      clear hK K
      refine norm_ (a' := ?_) ?_ ?_
      rotate_left
      ·show Act.put _ (some 43) _ = _
       simp only [Act.put, List.setIfInBounds_toArray, List.set_cons_zero, List.set_cons_succ, i64_w, i32_w]
       rfl
      refine one_ (i := 3) (N := some 44) #[true,true,true,true,false] rfl rfl (by kernel_rfl) (by decide) (fun K hK => ?_)
      refine goes_ Try.func14 (by kernel_rfl) rfl #[.agg #[.int .i64 t261, .slice Ao24 t262.length co24], .agg #[.int .i64 t271, .slice Ao83 t272.length co83]] (by rfl) rfl rfl mM ?_
      with_reducible refine (laws_eqGraph.calls kj10 t261 _ _ t262 t271 _ _ t272 false _ ?side1 ?side2 ?side3 ?side4 A34.out).mono ?_
      (case side1 => exact cP (Kd.R_reads' HO_266001.out).2.2)
      (case side2 => exact (Kd.R_reads' HO_266001.out).2.1)
      (case side3 => exact cP (Kd.R_reads' HO274.out).2.2)
      (case side4 => exact (Kd.R_reads' HO274.out).2.1)
      rintro e w84 ⟨rfl, hb⟩
      refine ⟨_, rfl, ?_⟩
      have n0_ := Aside0.mk (VL_below (by (with_reducible repeat (first | apply Kd.R_alloc | apply Kd.S_alloc | apply VL_alloc | apply Kd.R_drewN | apply Kd.S_drewN | apply VL_drewN | apply Kd.R_drew | apply Kd.S_drew | apply VL_drew));exact HO_4.out) hb)
      have n1_ := Aside0.mk (Kd.S_below (by (with_reducible repeat (first | apply Kd.R_alloc | apply Kd.S_alloc | apply VL_alloc | apply Kd.R_drewN | apply Kd.S_drewN | apply VL_drewN | apply Kd.R_drew | apply Kd.S_drew | apply VL_drew));exact HO_7.out) hb)
      have n2_ := Aside0.mk (Kd.R_below (by (with_reducible repeat (first | apply Kd.R_alloc | apply Kd.S_alloc | apply VL_alloc | apply Kd.R_drewN | apply Kd.S_drewN | apply VL_drewN | apply Kd.R_drew | apply Kd.S_drew | apply VL_drew));exact HO_266001.out) hb)
      have n3_ := Aside0.mk (Kd.R_below (by (with_reducible repeat (first | apply Kd.R_alloc | apply Kd.S_alloc | apply VL_alloc | apply Kd.R_drewN | apply Kd.S_drewN | apply VL_drewN | apply Kd.R_drew | apply Kd.S_drew | apply VL_drew));exact HO274.out) hb)
      have n4_ := Aside0.mk (blk_below (g := gb251) (o := .cells #[.int .i64 a0_0, .slice A0_1 l0_1.length c0_1] 24 (0, 0)) (by exact kP BK251.out) hb)
      have n5_ := Aside0.mk (blk_below (g := gb265) (o := .cells #[.int .i64 t261, .slice Ao24 t262.length co24] 29 (0, 0)) (by exact kP BK265.out) hb)
      have n6_ := Aside0.mk (below_step (by exact bB) hb)
      clear HO_4
      clear HO_7
      clear HO_266001
      clear HO274
      clear BK251
      clear BK265
      clear HB
      have HO_4 := n0_
      have HO_7 := n1_
      have HO_266001 := n2_
      have HO274 := n3_
      have BK251 := n4_
      have BK265 := n5_
      have HB := n6_
      clear n0_ n1_ n2_ n3_ n4_ n5_ n6_
      (try clear hb)
      (try clear hb2)
      (try clear hk)
      (try clear hi)
      refine hK.out _ _ ⟨(blk_cell BK265.out 0).trans rfl, (blk_cell BK265.out 1).trans rfl, (blk_cell BK251.out 0).trans rfl, (blk_cell BK251.out 1).trans rfl⟩ (fun hHeld => ?_)
      clear hK K
      refine norm_ (a' := ?_) ?_ ?_
      rotate_left
      ·show Act.put _ (some 44) _ = _
       simp only [Act.put, List.setIfInBounds_toArray, List.set_cons_zero, List.set_cons_succ, i64_w, i32_w]
       rfl
      refine pure_ (i := 4) (N := some 45) (v := ?_) (a' := ?_) #[true,true,true,true,true] rfl rfl (by kernel_rfl) (fun _ _ _ h => h) (Or.inl ⟨by rfl, ?_⟩) ?_ ?_
      rotate_left
      ·intro w'
       go_simp
       with_reducible rfl
      rotate_left
      ·simp only [Act.put, List.setIfInBounds_toArray, List.set_cons_zero, List.set_cons_succ, i64_w, i32_w]
       rfl
      refine done_ (by kernel_rfl) ?_
      try go_wp2
      go_ret
      exact ⟨by first | rfl | (simp [errW_none, errW_some] <;> rfl) | (simp [*, errW_none, errW_some] <;> rfl), by exact bB⟩


end Go.Proofs.Ytaddgielnfhhpaa.QLeastCliqueCover
