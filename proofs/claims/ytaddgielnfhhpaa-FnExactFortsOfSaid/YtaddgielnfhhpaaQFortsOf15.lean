import Derived.Test.YtaddgielnfhhpaaQFortsOf0
import Derived.Test.YtaddgielnfhhpaaQFortsOf1
import Derived.Test.YtaddgielnfhhpaaQFortsOf2
import Derived.Test.YtaddgielnfhhpaaQFortsOf9
import Derived.Test.YtaddgielnfhhpaaQFortsOf14
namespace Go.Proofs.Ytaddgielnfhhpaa.QFortsOf
open Go.RowKit Go.Proofs.YtaddgielnfhhpaaW.PrintWords Go.Proofs.YtaddgielnfhhpaaW.PrintLast Go.Proofs.YtaddgielnfhhpaaW.PrintMore
attribute [local go_sem] max2_int min2_int max_two min_two max_three min_three max_four min_four   -- for this text's walks alone
set_option linter.unusedVariables false
set_option linter.unusedSimpArgs false
/-! ### laws_FnExactFortsOf: function 8 -/
/-- Blocks of a row of rows: beyond some place, and of its own types. -/
def Mine9 (P : Nat → Prop) (W : World) (base : Nat) (E : List Nat) (k : Nat) : Prop := P k ∧ base ≤ k ∧ k < W.heap.size ∧ ∃ q, q ∈ E ∧ ∃ cells, W.heap[k]? = some (.cells cells q (0, 0))
theorem mine9 {α : Type} {d : Kd α} {e base : Nat} {ok : Nat → Prop} {w : World} {v : Value} {xs : List α} (h : Kd.S d e w base ok v xs) : Kd.S d e w base (Mine9 ok w base (e :: d.E)) v xs := Kd.S_bound h
theorem mine9_block {P : Nat → Prop} {W : World} {base g t : Nat} {E : List Nat} {cells : Array Value} (h : Mine9 P W base E g) (hb : W.heap[g]? = some (.cells cells t (0, 0))) (ht : ¬ t ∈ E) : False := by
 obtain ⟨_, _, _, q, hq, c, hc⟩ := h
 rw [hc] at hb
 simp only [Option.some.injEq, Obj.cells.injEq] at hb
 exact ht (hb.2.1 ▸ hq)
theorem mine9_R {α : Type} {d : Kd α} {e b base : Nat} {ok P : Nat → Prop} {W : World} {E : List Nat} {v : Value} {xs : List α} (h : Kd.R d e W b ok v xs) (hE : ∀ q ∈ e :: d.E, ¬ q ∈ E) : Kd.R d e W b (fun k => ¬ Mine9 P W base E k) v xs :=
 Kd.R_mono (Kd.R_bound h) (fun k hk hM => by obtain ⟨_, _, _, q, hq, c, hc⟩ := hk;exact mine9_block hM hc (hE q hq))
theorem mine9_old {W W1 : World} (hb : Below W.heap.size W W1) : ∃ P9_ : Nat → Prop, ∀ k, P9_ k ↔ W.heap.size ≤ k := ⟨_, fun _ => Iff.rfl⟩
mutual
def laws_FnExactFortsOf.j0 : Nat → List (List Int) → Bool → List (List Int) → Bool → Bool → Int → List (S80) → Int → List (S80) → Option (Bool)
 | 0, _, _, _, _, _, _, _, _, _ => none
 | k + 1, x4, x5, x7, x8, x40, x257000, x257001, x271000, x271001 => if x40 = true then (some false) else ((laws_toGraph.f k x257000 x257001).bind fun bt276 => ((laws_eqGraph.f k x271000 x271001 bt276.1 bt276.2).bind fun t280 => (if t280 = true then ((laws_markGraph.f x271000 x271001 1).bind fun bt281 => (if bt281.1 < 0 then (laws_FnExactFortsOf.j1 k x4 x5 x7 true x257000 x257001) else ((laws_eqIntSS.f k x7 x4).bind fun t283 => (if t283 = true then (laws_FnExactFortsOf.j1 k x4 x5 x7 (x8 != x5) x257000 x257001) else (laws_FnExactFortsOf.j1 k x4 x5 x7 true x257000 x257001))))) else (some false))))
def laws_FnExactFortsOf.j1 : Nat → List (List Int) → Bool → List (List Int) → Bool → Int → List (S80) → Option (Bool)
 | 0, _, _, _, _, _, _ => none
 | k + 1, x4, x5, x7, x61, x257000, x257001 => if x61 = true then (some false) else ((laws_markIntSS.f k x7 1).bind fun bt284 => ((laws_heldIntSS.f k bt284.2 1).bind fun t286 => (if t286 < 0 then (some false) else (if t286 = bt284.1 then ((laws_toGraph.f k x257000 x257001).bind fun bt287 => ((impl_FortsOf.f k bt287.1 bt287.2).bind fun bt291 => ((laws_eqIntSS.f k bt291.1 x4).bind fun t295 => (if t295 = true then (laws_FnExactFortsOf.j2 k bt284.2 bt284.1 (bt291.2 != x5)) else (laws_FnExactFortsOf.j2 k bt284.2 bt284.1 true))))) else (some false)))))
def laws_FnExactFortsOf.j2 : Nat → List (List Int) → Int → Bool → Option (Bool)
 | 0, _, _, _ => none
 | k + 1, x7, x10, x87 => if x87 = true then (some false) else ((laws_heldIntSS.f k x7 1).bind fun t296 => (if t296 < 0 then (some false) else (if t296 = x10 then (some true) else (some false))))
end
def laws_FnExactFortsOf.f (k : Nat) (a0_0 : Int) (l0_1 : List (S80)) : Option (Bool) := (laws_szGraph.f a0_0 l0_1 1048576).bind fun t257 => (if t257 < 0 then (some true) else ((laws_toGraph.f k a0_0 l0_1).bind fun bt258 => ((spec_FortsOf.f k bt258.1 bt258.2).bind fun bt262 => ((laws_toGraph.f k a0_0 l0_1).bind fun bt266 => ((impl_FortsOf.f k bt266.1 bt266.2).bind fun bt271 => ((laws_eqIntSS.f k bt271.1 bt262.1).bind fun t275 => (if t275 = true then (laws_FnExactFortsOf.j0 k bt262.1 bt262.2 bt271.1 bt271.2 (bt271.2 != bt262.2) a0_0 l0_1 bt266.1 bt266.2) else (laws_FnExactFortsOf.j0 k bt262.1 bt262.2 bt271.1 bt271.2 true a0_0 l0_1 bt266.1 bt266.2))))))))
theorem laws_FnExactFortsOf.mono_l : ∀ k, (∀ y0 y1 y2 y3 y4 y5 y6 y7 y8, LeO (laws_FnExactFortsOf.j0 k y0 y1 y2 y3 y4 y5 y6 y7 y8) (laws_FnExactFortsOf.j0 (k + 1) y0 y1 y2 y3 y4 y5 y6 y7 y8)) ∧ (∀ y0 y1 y2 y3 y4 y5, LeO (laws_FnExactFortsOf.j1 k y0 y1 y2 y3 y4 y5) (laws_FnExactFortsOf.j1 (k + 1) y0 y1 y2 y3 y4 y5)) ∧ (∀ y0 y1 y2, LeO (laws_FnExactFortsOf.j2 k y0 y1 y2) (laws_FnExactFortsOf.j2 (k + 1) y0 y1 y2))
 | 0 => ⟨fun _ _ _ _ _ _ _ _ _ r h => by simp [laws_FnExactFortsOf.j0] at h, fun _ _ _ _ _ _ r h => by simp [laws_FnExactFortsOf.j1] at h, fun _ _ _ r h => by simp [laws_FnExactFortsOf.j2] at h⟩
 | k + 1 => by
  obtain ⟨ih0, ih1, ih2⟩ := laws_FnExactFortsOf.mono_l k
  refine ⟨?_, ?_, ?_⟩
  ·intro y0 y1 y2 y3 y4 y5 y6 y7 y8
   unfold laws_FnExactFortsOf.j0
   repeat' first
   | (with_reducible exact ih0 _ _ _ _ _ _ _ _ _)
   | (with_reducible exact ih1 _ _ _ _ _ _)
   | (with_reducible exact ih2 _ _ _)
   | (with_reducible exact impl_FortsOf.mono _ _ _)
   | (with_reducible exact laws_eqGraph.mono _ _ _ _ _)
   | (with_reducible exact laws_eqIntSS.mono _ _ _)
   | (with_reducible exact laws_heldIntSS.mono _ _ _)
   | (with_reducible exact laws_markIntSS.mono _ _ _)
   | (with_reducible exact laws_toGraph.mono _ _ _)
   | (with_reducible exact spec_FortsOf.mono _ _ _)
   | (with_reducible exact LeO.refl _)
   | (with_reducible exact LeO.none _)
   | (with_reducible refine LeO.ite ?_ ?_)
   | (with_reducible refine LeO.bind ?_ (fun _ => ?_))
   | exact ih0 _ _ _ _ _ _ _ _ _
   | exact ih1 _ _ _ _ _ _
   | exact ih2 _ _ _
   | exact impl_FortsOf.mono _ _ _
   | exact laws_eqGraph.mono _ _ _ _ _
   | exact laws_eqIntSS.mono _ _ _
   | exact laws_heldIntSS.mono _ _ _
   | exact laws_markIntSS.mono _ _ _
   | exact laws_toGraph.mono _ _ _
   | exact spec_FortsOf.mono _ _ _
   | exact LeO.none _
   | refine LeO.ite ?_ ?_
   | refine LeO.bind ?_ (fun _ => ?_)
  ·intro y0 y1 y2 y3 y4 y5
   unfold laws_FnExactFortsOf.j1
   repeat' first
   | (with_reducible exact ih0 _ _ _ _ _ _ _ _ _)
   | (with_reducible exact ih1 _ _ _ _ _ _)
   | (with_reducible exact ih2 _ _ _)
   | (with_reducible exact impl_FortsOf.mono _ _ _)
   | (with_reducible exact laws_eqGraph.mono _ _ _ _ _)
   | (with_reducible exact laws_eqIntSS.mono _ _ _)
   | (with_reducible exact laws_heldIntSS.mono _ _ _)
   | (with_reducible exact laws_markIntSS.mono _ _ _)
   | (with_reducible exact laws_toGraph.mono _ _ _)
   | (with_reducible exact spec_FortsOf.mono _ _ _)
   | (with_reducible exact LeO.refl _)
   | (with_reducible exact LeO.none _)
   | (with_reducible refine LeO.ite ?_ ?_)
   | (with_reducible refine LeO.bind ?_ (fun _ => ?_))
   | exact ih0 _ _ _ _ _ _ _ _ _
   | exact ih1 _ _ _ _ _ _
   | exact ih2 _ _ _
   | exact impl_FortsOf.mono _ _ _
   | exact laws_eqGraph.mono _ _ _ _ _
   | exact laws_eqIntSS.mono _ _ _
   | exact laws_heldIntSS.mono _ _ _
   | exact laws_markIntSS.mono _ _ _
   | exact laws_toGraph.mono _ _ _
   | exact spec_FortsOf.mono _ _ _
   | exact LeO.none _
   | refine LeO.ite ?_ ?_
   | refine LeO.bind ?_ (fun _ => ?_)
  ·intro y0 y1 y2
   unfold laws_FnExactFortsOf.j2
   repeat' first
   | (with_reducible exact ih0 _ _ _ _ _ _ _ _ _)
   | (with_reducible exact ih1 _ _ _ _ _ _)
   | (with_reducible exact ih2 _ _ _)
   | (with_reducible exact impl_FortsOf.mono _ _ _)
   | (with_reducible exact laws_eqGraph.mono _ _ _ _ _)
   | (with_reducible exact laws_eqIntSS.mono _ _ _)
   | (with_reducible exact laws_heldIntSS.mono _ _ _)
   | (with_reducible exact laws_markIntSS.mono _ _ _)
   | (with_reducible exact laws_toGraph.mono _ _ _)
   | (with_reducible exact spec_FortsOf.mono _ _ _)
   | (with_reducible exact LeO.refl _)
   | (with_reducible exact LeO.none _)
   | (with_reducible refine LeO.ite ?_ ?_)
   | (with_reducible refine LeO.bind ?_ (fun _ => ?_))
   | exact ih0 _ _ _ _ _ _ _ _ _
   | exact ih1 _ _ _ _ _ _
   | exact ih2 _ _ _
   | exact impl_FortsOf.mono _ _ _
   | exact laws_eqGraph.mono _ _ _ _ _
   | exact laws_eqIntSS.mono _ _ _
   | exact laws_heldIntSS.mono _ _ _
   | exact laws_markIntSS.mono _ _ _
   | exact laws_toGraph.mono _ _ _
   | exact spec_FortsOf.mono _ _ _
   | exact LeO.none _
   | refine LeO.ite ?_ ?_
   | refine LeO.bind ?_ (fun _ => ?_)
theorem laws_FnExactFortsOf.mono : ∀ a0 a1 k, LeO (laws_FnExactFortsOf.f k a0 a1) (laws_FnExactFortsOf.f (k + 1) a0 a1) := by
 intro a0 a1 k
 obtain ⟨ih0, ih1, ih2⟩ := laws_FnExactFortsOf.mono_l k
 unfold laws_FnExactFortsOf.f
 repeat' first
   | (with_reducible exact ih0 _ _ _ _ _ _ _ _ _)
   | (with_reducible exact ih1 _ _ _ _ _ _)
   | (with_reducible exact ih2 _ _ _)
   | (with_reducible exact impl_FortsOf.mono _ _ _)
   | (with_reducible exact laws_eqGraph.mono _ _ _ _ _)
   | (with_reducible exact laws_eqIntSS.mono _ _ _)
   | (with_reducible exact laws_heldIntSS.mono _ _ _)
   | (with_reducible exact laws_markIntSS.mono _ _ _)
   | (with_reducible exact laws_toGraph.mono _ _ _)
   | (with_reducible exact spec_FortsOf.mono _ _ _)
   | (with_reducible exact LeO.refl _)
   | (with_reducible exact LeO.none _)
   | (with_reducible refine LeO.ite ?_ ?_)
   | (with_reducible refine LeO.bind ?_ (fun _ => ?_))
   | exact ih0 _ _ _ _ _ _ _ _ _
   | exact ih1 _ _ _ _ _ _
   | exact ih2 _ _ _
   | exact impl_FortsOf.mono _ _ _
   | exact laws_eqGraph.mono _ _ _ _ _
   | exact laws_eqIntSS.mono _ _ _
   | exact laws_heldIntSS.mono _ _ _
   | exact laws_markIntSS.mono _ _ _
   | exact laws_toGraph.mono _ _ _
   | exact spec_FortsOf.mono _ _ _
   | exact LeO.none _
   | refine LeO.ite ?_ ?_
   | refine LeO.bind ?_ (fun _ => ?_)
set_option maxHeartbeats 8000000 in
set_option maxRecDepth 100000 in
theorem laws_FnExactFortsOf.calls (k : Nat) (a0_0 : Int) (A0_1 : Option Addr) (c0_1 : Nat) (l0_1 : List (S80)) (r : Bool) (w : World) (hr0_1 : Kd.C k80 w A0_1 l0_1.length l0_1) (hc0_1 : l0_1.length ≤ c0_1) (h : laws_FnExactFortsOf.f k a0_0 l0_1 = some r) :
  Calls Try.prog 8 #[.agg #[.int .i64 a0_0, .slice A0_1 l0_1.length c0_1]] w fun e w' => e = .returned (.bool r) ∧ Below w.heap.size w w' := by
 have hu24 := Try.underlying24
 have hu29 := Try.underlying29
 have HR0_1 := Aside0.mk hr0_1
 have HC0_1 := Aside0.mk hc0_1
 clear hr0_1 hc0_1
 have HB := Aside0.mk (Below.refl w.heap.size w)
 have H : ((laws_szGraph.f a0_0 l0_1 1048576).bind fun t257 => (if t257 < 0 then (some true) else ((laws_toGraph.f k a0_0 l0_1).bind fun bt258 => ((spec_FortsOf.f k bt258.1 bt258.2).bind fun bt262 => ((laws_toGraph.f k a0_0 l0_1).bind fun bt266 => ((impl_FortsOf.f k bt266.1 bt266.2).bind fun bt271 => ((laws_eqIntSS.f k bt271.1 bt262.1).bind fun t275 => (if t275 = true then (laws_FnExactFortsOf.j0 k bt262.1 bt262.2 bt271.1 bt271.2 (bt271.2 != bt262.2) a0_0 l0_1 bt266.1 bt266.2) else (laws_FnExactFortsOf.j0 k bt262.1 bt262.2 bt271.1 bt271.2 true a0_0 l0_1 bt266.1 bt266.2))))))))) = some r := h
 clear h
 replace H := Option.bind_eq_some_iff.mp H
 obtain ⟨t257, A20, H⟩ := H
 replace H : (if t257 < 0 then (some true) else ((laws_toGraph.f k a0_0 l0_1).bind fun bt258 => ((spec_FortsOf.f k bt258.1 bt258.2).bind fun bt262 => ((laws_toGraph.f k a0_0 l0_1).bind fun bt266 => ((impl_FortsOf.f k bt266.1 bt266.2).bind fun bt271 => ((laws_eqIntSS.f k bt271.1 bt262.1).bind fun t275 => (if t275 = true then (laws_FnExactFortsOf.j0 k bt262.1 bt262.2 bt271.1 bt271.2 (bt271.2 != bt262.2) a0_0 l0_1 bt266.1 bt266.2) else (laws_FnExactFortsOf.j0 k bt262.1 bt262.2 bt271.1 bt271.2 true a0_0 l0_1 bt266.1 bt266.2)))))))) = some r := H
 have A2 := Aside0.mk A20
 clear A20
 by_cases c3 : t257 < 0
 ·rw [if_pos c3] at H
  have c3b0 : decide (t257 < 0) = true := decide_eq_true c3
  clear c3
  obtain rfl := Option.some.inj H
  go_enter Try.func8, Try.ntmps8
  go_wp2_with (first | ((with_reducible refine gate_dst (N := 1) rfl ?_);refine box_event ?hg (N := 1) ?hd (cs := #[.int .i64 a0_0, .slice A0_1 l0_1.length c0_1]) (t := 24) ?hr ?_;(case hd => rfl);(case hg => rfl);(case hr => first | (go_simp;done) | (go_simp;rfl));intro gb256 hg w4 hbox hb;have n0_ := Aside0.mk (below_step (by exact bB) hb);have n1_ := Aside0.mk (hbox);have n2_ := Aside0.mk ((by rw [hg];exact (below_size (by exact bB)) : w.heap.size ≤ gb256));have n3_ := Aside0.mk ((by rw [hg];exact (below_size (by exact bB)) : w.heap.size ≤ gb256));clear HB;have HB := n0_;have BK256 := n1_;have GW256 := n2_;have GE256 := n3_;clear n0_ n1_ n2_ n3_;clear hb hbox hg;have hcz5_0 : w4.cell? ⟨gb256, 0, none⟩ = some (.int .i64 a0_0) := (blk_cell BK256.out 0).trans rfl;have hcz5_1 : w4.cell? ⟨gb256, 1, none⟩ = some (.slice A0_1 l0_1.length c0_1) := (blk_cell BK256.out 1).trans rfl;have hfz5_0 := blk_frozen BK256.out 0;have hfz5_1 := blk_frozen BK256.out 1) | ((with_reducible refine gate_callee (f := 9) rfl ?_);refine goesL_ (some 16) rfl rfl Try.func9 (by kernel_rfl) rfl #[.agg #[.int .i64 a0_0, .slice A0_1 l0_1.length c0_1], .int .i64 1048576] rfl mM ?_;(with_reducible refine (laws_szGraph.calls a0_0 _ _ l0_1 1048576 t257 _ ?side1 ?side2 A2.out).mono ?_);(case side1 => exact cP (Kd.C_below HR0_1.out HB.out));(case side2 => exact HC0_1.out);rintro e w6 ⟨rfl, hb⟩;refine ⟨_, rfl, ?_⟩;have n0_ := Aside0.mk (blk_below (g := gb256) (o := .cells #[.int .i64 a0_0, .slice A0_1 l0_1.length c0_1] 24 (0, 0)) (by exact kP BK256.out) hb);have n1_ := Aside0.mk (below_step (by exact bB) hb);clear BK256;clear HB;have BK256 := n0_;have HB := n1_;clear n0_ n1_;(try clear hb);(try clear hb2);(try clear hk);(try clear hi)))
  go_ret
  exact ⟨by first | rfl | (simp [errW_none, errW_some] <;> rfl) | (simp [*, errW_none, errW_some] <;> rfl), by exact bB⟩
 ·rw [if_neg c3] at H
  have c3b0 : decide (t257 < 0) = false := decide_eq_false c3
  clear c3
  replace H := Option.bind_eq_some_iff.mp H
  obtain ⟨⟨t258, t259⟩, A70, H⟩ := H
  replace H : ((spec_FortsOf.f k t258 t259).bind fun bt262 => ((laws_toGraph.f k a0_0 l0_1).bind fun bt266 => ((impl_FortsOf.f k bt266.1 bt266.2).bind fun bt271 => ((laws_eqIntSS.f k bt271.1 bt262.1).bind fun t275 => (if t275 = true then (laws_FnExactFortsOf.j0 k bt262.1 bt262.2 bt271.1 bt271.2 (bt271.2 != bt262.2) a0_0 l0_1 bt266.1 bt266.2) else (laws_FnExactFortsOf.j0 k bt262.1 bt262.2 bt271.1 bt271.2 true a0_0 l0_1 bt266.1 bt266.2)))))) = some r := H
  have A7 := Aside0.mk A70
  clear A70
  replace H := Option.bind_eq_some_iff.mp H
  obtain ⟨⟨t262, t265⟩, A80, H⟩ := H
  replace H : ((laws_toGraph.f k a0_0 l0_1).bind fun bt266 => ((impl_FortsOf.f k bt266.1 bt266.2).bind fun bt271 => ((laws_eqIntSS.f k bt271.1 t262).bind fun t275 => (if t275 = true then (laws_FnExactFortsOf.j0 k t262 t265 bt271.1 bt271.2 (bt271.2 != t265) a0_0 l0_1 bt266.1 bt266.2) else (laws_FnExactFortsOf.j0 k t262 t265 bt271.1 bt271.2 true a0_0 l0_1 bt266.1 bt266.2))))) = some r := H
  have A8 := Aside0.mk A80
  clear A80
  replace H := Option.bind_eq_some_iff.mp H
  obtain ⟨⟨t266, t267⟩, A90, H⟩ := H
  replace H : ((impl_FortsOf.f k t266 t267).bind fun bt271 => ((laws_eqIntSS.f k bt271.1 t262).bind fun t275 => (if t275 = true then (laws_FnExactFortsOf.j0 k t262 t265 bt271.1 bt271.2 (bt271.2 != t265) a0_0 l0_1 t266 t267) else (laws_FnExactFortsOf.j0 k t262 t265 bt271.1 bt271.2 true a0_0 l0_1 t266 t267)))) = some r := H
  have A9 := Aside0.mk A90
  clear A90
  replace H := Option.bind_eq_some_iff.mp H
  obtain ⟨⟨t271, t274⟩, A100, H⟩ := H
  replace H : ((laws_eqIntSS.f k t271 t262).bind fun t275 => (if t275 = true then (laws_FnExactFortsOf.j0 k t262 t265 t271 t274 (t274 != t265) a0_0 l0_1 t266 t267) else (laws_FnExactFortsOf.j0 k t262 t265 t271 t274 true a0_0 l0_1 t266 t267))) = some r := H
  have A10 := Aside0.mk A100
  clear A100
  have HC11 := Aside0.mk H
  clear H
  go_enter Try.func8, Try.ntmps8
  go_upto_region 8 with (first | ((with_reducible refine gate_dst (N := 1) rfl ?_);refine box_event ?hg (N := 1) ?hd (cs := #[.int .i64 a0_0, .slice A0_1 l0_1.length c0_1]) (t := 24) ?hr ?_;(case hd => rfl);(case hg => rfl);(case hr => first | (go_simp;done) | (go_simp;rfl));intro gb256 hg w12 hbox hb;have n0_ := Aside0.mk (below_step (by exact bB) hb);have n1_ := Aside0.mk (hbox);have n2_ := Aside0.mk ((by rw [hg];exact (below_size (by exact bB)) : w.heap.size ≤ gb256));have n3_ := Aside0.mk ((by rw [hg];exact (below_size (by exact bB)) : w.heap.size ≤ gb256));clear HB;have HB := n0_;have BK256 := n1_;have GW256 := n2_;have GE256 := n3_;clear n0_ n1_ n2_ n3_;clear hb hbox hg;have hcz13_0 : w12.cell? ⟨gb256, 0, none⟩ = some (.int .i64 a0_0) := (blk_cell BK256.out 0).trans rfl;have hcz13_1 : w12.cell? ⟨gb256, 1, none⟩ = some (.slice A0_1 l0_1.length c0_1) := (blk_cell BK256.out 1).trans rfl;have hfz13_0 := blk_frozen BK256.out 0;have hfz13_1 := blk_frozen BK256.out 1) | ((with_reducible refine gate_callee (f := 9) rfl ?_);refine goesL_ (some 16) rfl rfl Try.func9 (by kernel_rfl) rfl #[.agg #[.int .i64 a0_0, .slice A0_1 l0_1.length c0_1], .int .i64 1048576] rfl mM ?_;(with_reducible refine (laws_szGraph.calls a0_0 _ _ l0_1 1048576 t257 _ ?side1 ?side2 A2.out).mono ?_);(case side1 => exact cP (Kd.C_below HR0_1.out HB.out));(case side2 => exact HC0_1.out);rintro e w14 ⟨rfl, hb⟩;refine ⟨_, rfl, ?_⟩;have n0_ := Aside0.mk (blk_below (g := gb256) (o := .cells #[.int .i64 a0_0, .slice A0_1 l0_1.length c0_1] 24 (0, 0)) (by exact kP BK256.out) hb);have n1_ := Aside0.mk (below_step (by exact bB) hb);clear BK256;clear HB;have BK256 := n0_;have HB := n1_;clear n0_ n1_;(try clear hb);(try clear hb2);(try clear hk);(try clear hi);have hcz15_0 : w14.cell? ⟨gb256, 0, none⟩ = some (.int .i64 a0_0) := (blk_cell BK256.out 0).trans rfl;have hcz15_1 : w14.cell? ⟨gb256, 1, none⟩ = some (.slice A0_1 l0_1.length c0_1) := (blk_cell BK256.out 1).trans rfl;have hfz15_0 := blk_frozen BK256.out 0;have hfz15_1 := blk_frozen BK256.out 1) | ((with_reducible refine gate_callee (f := 11) rfl ?_);refine goesL_ (some 21) rfl rfl Try.func11 (by kernel_rfl) rfl #[.agg #[.int .i64 a0_0, .slice A0_1 l0_1.length c0_1]] rfl mM ?_;(with_reducible refine (laws_toGraph.calls k a0_0 _ _ l0_1 t258 t259 _ ?side1 ?side2 A7.out).mono ?_);(case side1 => exact cP (Kd.C_below HR0_1.out HB.out));(case side2 => exact HC0_1.out);rintro e w16 ⟨v260, rfl, ho0, hb⟩;refine ⟨_, rfl, ?_⟩;have n0_ := Aside0.mk (Kd.R_lower ho0 (below_size (by exact bB)));have n1_ := Aside0.mk (blk_below (g := gb256) (o := .cells #[.int .i64 a0_0, .slice A0_1 l0_1.length c0_1] 24 (0, 0)) (by exact kP BK256.out) hb);have n2_ := Aside0.mk (below_step (by exact bB) hb);clear BK256;clear HB;have HO261 := n0_;have BK256 := n1_;have HB := n2_;clear n0_ n1_ n2_;(try clear hb);(try clear hb2);(try clear hk);(try clear hi);(try clear ho0);obtain ⟨Ao17, co17, eo17⟩ := Kd.R_slice HO261.out;subst eo17) | ((with_reducible refine gate_callee (f := 30) rfl ?_);refine goesL_ (some 22) rfl rfl Try.func30 (by kernel_rfl) rfl #[.agg #[.int .i64 t258, .slice Ao17 t259.length co17]] rfl mM ?_;(with_reducible refine (spec_FortsOf.calls k t258 _ _ t259 t262 t265 _ ?side1 ?side2 A8.out).mono ?_);(case side1 => exact cP (Kd.R_reads' HO261.out).2.2);(case side2 => exact (Kd.R_reads' HO261.out).2.1);rintro e w18 ⟨v263, rfl, ho0, hb⟩;refine ⟨_, rfl, ?_⟩;have n0_ := Aside0.mk (Kd.R_below (by (with_reducible repeat (first | apply Kd.R_alloc | apply Kd.S_alloc | apply Kd.N_alloc | apply Kd.R_drewN | apply Kd.S_drewN | apply Kd.N_drewN | apply Kd.R_drew | apply Kd.S_drew | apply Kd.N_drew));exact HO261.out) hb);have n1_ := Aside0.mk (Kd.N_lower ho0 (below_size (by exact bB)));have n2_ := Aside0.mk (blk_below (g := gb256) (o := .cells #[.int .i64 a0_0, .slice A0_1 l0_1.length c0_1] 24 (0, 0)) (by exact kP BK256.out) hb);have n3_ := Aside0.mk (below_step (by exact bB) hb);clear HO261;clear BK256;clear HB;have HO261 := n0_;have HO264 := n1_;have BK256 := n2_;have HB := n3_;clear n0_ n1_ n2_ n3_;(try clear hb);(try clear hb2);(try clear hk);(try clear hi);(try clear ho0);have hcz19_0 : w18.cell? ⟨gb256, 0, none⟩ = some (.int .i64 a0_0) := (blk_cell BK256.out 0).trans rfl;have hcz19_1 : w18.cell? ⟨gb256, 1, none⟩ = some (.slice A0_1 l0_1.length c0_1) := (blk_cell BK256.out 1).trans rfl;have hfz19_0 := blk_frozen BK256.out 0;have hfz19_1 := blk_frozen BK256.out 1) | ((with_reducible refine gate_callee (f := 11) rfl ?_);refine goesL_ (some 26) rfl rfl Try.func11 (by kernel_rfl) rfl #[.agg #[.int .i64 a0_0, .slice A0_1 l0_1.length c0_1]] rfl mM ?_;(with_reducible refine (laws_toGraph.calls k a0_0 _ _ l0_1 t266 t267 _ ?side1 ?side2 A9.out).mono ?_);(case side1 => exact cP (Kd.C_below HR0_1.out HB.out));(case side2 => exact HC0_1.out);rintro e w20 ⟨v268, rfl, ho0, hb⟩;refine ⟨_, rfl, ?_⟩;have n0_ := Aside0.mk (Kd.R_elder' (by (with_reducible repeat (first | apply Kd.R_alloc | apply Kd.S_alloc | apply Kd.N_alloc | apply Kd.R_drewN | apply Kd.S_drewN | apply Kd.N_drewN | apply Kd.R_drew | apply Kd.S_drew | apply Kd.N_drew));exact HO261.out) (Kd.R_base ho0) hb);have n1_ := Aside0.mk (Kd.N_elder' (by (with_reducible repeat (first | apply Kd.R_alloc | apply Kd.S_alloc | apply Kd.N_alloc | apply Kd.R_drewN | apply Kd.S_drewN | apply Kd.N_drewN | apply Kd.R_drew | apply Kd.S_drew | apply Kd.N_drew));exact HO264.out) (Kd.R_base ho0) hb);have n2_ := Aside0.mk (Kd.R_lower (Kd.R_new' ho0 (Kd.R_lt (by (with_reducible repeat (first | apply Kd.R_alloc | apply Kd.S_alloc | apply Kd.N_alloc | apply Kd.R_drewN | apply Kd.S_drewN | apply Kd.N_drewN | apply Kd.R_drew | apply Kd.S_drew | apply Kd.N_drew));exact HO261.out))) (below_size (by exact bB)));have n3_ := Aside0.mk (blk_below (g := gb256) (o := .cells #[.int .i64 a0_0, .slice A0_1 l0_1.length c0_1] 24 (0, 0)) (by exact kP BK256.out) hb);have n4_ := Aside0.mk (below_step (by exact bB) hb);clear HO261;clear HO264;clear BK256;clear HB;have HO261 := n0_;have HO264 := n1_;have HO269 := n2_;have BK256 := n3_;have HB := n4_;clear n0_ n1_ n2_ n3_ n4_;(try clear hb);(try clear hb2);(try clear hk);(try clear hi);(try clear ho0)) | ((with_reducible refine gate_dst (N := 6) rfl ?_);refine box_event ?hg (N := 6) ?hd (cs := #[.int .i64 0, .slice none 0 0]) (t := 29) ?hr ?_;(case hd => rfl);(case hg => rfl);(case hr => first | (go_simp;done) | (go_simp;rfl));intro gb270 hg w21 hbox hb;have n0_ := Aside0.mk (Kd.R_below (by (with_reducible repeat (first | apply Kd.R_alloc | apply Kd.S_alloc | apply Kd.N_alloc | apply Kd.R_drewN | apply Kd.S_drewN | apply Kd.N_drewN | apply Kd.R_drew | apply Kd.S_drew | apply Kd.N_drew));exact HO261.out) hb);have n1_ := Aside0.mk (Kd.N_below (Kd.N_elderB (by (with_reducible repeat (first | apply Kd.R_alloc | apply Kd.S_alloc | apply Kd.N_alloc | apply Kd.R_drewN | apply Kd.S_drewN | apply Kd.N_drewN | apply Kd.R_drew | apply Kd.S_drew | apply Kd.N_drew));exact HO264.out) gb270 (by rw [hg];exact Nat.le_refl _)) hb);have n2_ := Aside0.mk (Kd.R_below (by (with_reducible repeat (first | apply Kd.R_alloc | apply Kd.S_alloc | apply Kd.N_alloc | apply Kd.R_drewN | apply Kd.S_drewN | apply Kd.N_drewN | apply Kd.R_drew | apply Kd.S_drew | apply Kd.N_drew));exact HO269.out) hb);have n3_ := Aside0.mk (blk_below (g := gb256) (o := .cells #[.int .i64 a0_0, .slice A0_1 l0_1.length c0_1] 24 (0, 0)) (by exact kP BK256.out) hb);have n4_ := Aside0.mk (below_step (by exact bB) hb);have n5_ := Aside0.mk (hbox);have n6_ := Aside0.mk ((by rw [hg];exact (below_size (by exact bB)) : w.heap.size ≤ gb270));have n7_ := Aside0.mk ((by rw [hg];exact (below_size (by exact bB)) : w.heap.size ≤ gb270));have n8_ := Aside0.mk ((by rw [hg];exact Nat.ne_of_lt (blk_lt (g := gb256) (o := .cells #[.int .i64 a0_0, .slice A0_1 l0_1.length c0_1] 24 (0, 0)) (by exact kP BK256.out)) : gb256 ≠ gb270));have n9_ := Aside0.mk ((by rw [hg];exact Nat.ne_of_gt (blk_lt (g := gb256) (o := .cells #[.int .i64 a0_0, .slice A0_1 l0_1.length c0_1] 24 (0, 0)) (by exact kP BK256.out)) : gb270 ≠ gb256));clear HO261;clear HO264;clear HO269;clear BK256;clear HB;have HO261 := n0_;have HO264 := n1_;have HO269 := n2_;have BK256 := n3_;have HB := n4_;have BK270 := n5_;have GW270 := n6_;have GE270 := n7_;have NB256_270 := n8_;have NB270_256 := n9_;clear n0_ n1_ n2_ n3_ n4_ n5_ n6_ n7_ n8_ n9_;clear hb hbox hg;have hnb22 := NB270_256.out;have hnc22 := NB256_270.out;have hcz23_0 : w21.cell? ⟨gb270, 0, none⟩ = some (.int .i64 0) := (blk_cell BK270.out 0).trans rfl;have hcz23_1 : w21.cell? ⟨gb270, 1, none⟩ = some (.slice none 0 0) := (blk_cell BK270.out 1).trans rfl;have hfz23_0 := blk_frozen BK270.out 0;have hfz23_1 := blk_frozen BK270.out 1;obtain ⟨Ao24, co24, eo24⟩ := Kd.R_slice HO269.out;subst eo24) | ((with_reducible refine gate_callee (f := 31) rfl ?_);refine goesL_ (some 29) rfl rfl Try.func31 (by kernel_rfl) rfl #[.agg #[.int .i64 t266, .slice Ao24 t267.length co24]] rfl mM ?_;(with_reducible refine (impl_FortsOf.calls k t266 _ _ t267 t271 t274 _ ?side1 ?side2 A10.out).mono ?_);(case side1 => refine (Kd.R_reads' (e := 80) (base := w.heap.size) (ok := fun k_ => (True ∧ some k_ ≠ (.slice Ao17 t259.length co17 : Value).ownBlock)) (n := t267.length) (c := co24) ?_).2.2;exact (by (with_reducible repeat (first | apply Kd.R_alloc | apply Kd.S_alloc | apply Kd.N_alloc | apply Kd.R_drewN | apply Kd.S_drewN | apply Kd.N_drewN | apply Kd.R_drew | apply Kd.S_drew | apply Kd.N_drew));exact (Kd.R_mono (Kd.R_far (p := ⟨gb270, 1, none⟩) (Kd.R_far (p := ⟨gb270, 0, none⟩) (Kd.R_types HO269.out BK270.out (by decide)) (fun _ hk => hk.2) (.int .i64 t266)) (fun _ hk => hk.2) (.slice Ao24 t267.length co24)) (fun _ h_ => h_.1))));(case side2 => exact (Kd.R_reads' HO269.out).2.1);rintro e w25 ⟨v272, rfl, ho0, hb⟩;refine ⟨_, rfl, ?_⟩;obtain ⟨P9_, hp9_⟩ := mine9_old hb;have n0_ := Aside0.mk (Kd.R_below (by (with_reducible repeat (first | apply Kd.R_alloc | apply Kd.S_alloc | apply Kd.N_alloc | apply Kd.R_drewN | apply Kd.S_drewN | apply Kd.N_drewN | apply Kd.R_drew | apply Kd.S_drew | apply Kd.N_drew));exact (Kd.R_mono (Kd.R_far (p := ⟨gb270, 1, none⟩) (Kd.R_far (p := ⟨gb270, 0, none⟩) (Kd.R_types HO261.out BK270.out (by decide)) (fun _ hk => hk.2) (.int .i64 t266)) (fun _ hk => hk.2) (.slice Ao24 t267.length co24)) (fun _ h_ => h_.1))) hb);have n1_ := Aside0.mk (Kd.N_mono (ok' := fun k_ => ¬ P9_ k_ ∧ some k_ ≠ (.slice Ao24 t267.length co24 : Value).ownBlock) (Kd.N_old (ok := fun k_ => True ∧ some k_ ≠ (.slice Ao24 t267.length co24 : Value).ownBlock) (by (with_reducible repeat (first | apply Kd.R_alloc | apply Kd.S_alloc | apply Kd.N_alloc | apply Kd.R_drewN | apply Kd.S_drewN | apply Kd.N_drewN | apply Kd.R_drew | apply Kd.S_drew | apply Kd.N_drew));exact (Kd.N_mono (ok' := fun k_ => True ∧ some k_ ≠ (.slice Ao24 t267.length co24 : Value).ownBlock) (Kd.N_far (p := ⟨gb270, 1, none⟩) (Kd.N_far (p := ⟨gb270, 0, none⟩) HO264.out (fun _ hk => hk.2) (.int .i64 t266)) (fun _ hk => hk.2) (.slice Ao24 t267.length co24)) (fun _ h_ => ⟨trivial, h_.1.2⟩))) hb) (fun k_ hk_ => ⟨fun h_ => absurd ((hp9_ k_).1 h_) (Nat.not_le.mpr hk_.2), hk_.1.2⟩));have n2_ := Aside0.mk (Kd.R_below (by (with_reducible repeat (first | apply Kd.R_alloc | apply Kd.S_alloc | apply Kd.N_alloc | apply Kd.R_drewN | apply Kd.S_drewN | apply Kd.N_drewN | apply Kd.R_drew | apply Kd.S_drew | apply Kd.N_drew));exact (Kd.R_mono (Kd.R_far (p := ⟨gb270, 1, none⟩) (Kd.R_far (p := ⟨gb270, 0, none⟩) (Kd.R_types HO269.out BK270.out (by decide)) (fun _ hk => hk.2) (.int .i64 t266)) (fun _ hk => hk.2) (.slice Ao24 t267.length co24)) (fun _ h_ => h_.1))) hb);have n3_ := Aside0.mk (Kd.S_lower (Kd.S_mono (ok' := fun k_ => P9_ k_) (Kd.S_bound ho0) (fun k_ hk_ => (hp9_ k_).2 hk_.2.1)) (below_size (by exact bB)));have n4_ := Aside0.mk (blk_below (g := gb256) (o := .cells #[.int .i64 a0_0, .slice A0_1 l0_1.length c0_1] 24 (0, 0)) (by refine kP ?_;refine blk_far ?_ NB256_270.out _;refine kP ?_;refine blk_far ?_ NB256_270.out _;exact kP BK256.out) hb);have n5_ := Aside0.mk (blk_below (g := gb270) (o := .cells #[.int .i64 t266, .slice Ao24 t267.length co24] 29 (0, 0)) (by refine kP ?_;refine blk_put (cs := #[.int .i64 t266, .slice none 0 0]) ?_ 1 _ rfl;refine kP ?_;refine blk_put (cs := #[.int .i64 0, .slice none 0 0]) ?_ 0 _ rfl;exact kP BK270.out) hb);have n6_ := Aside0.mk (below_step (by exact bB) hb);clear HO261;clear HO264;clear HO269;clear BK256;clear BK270;clear HB;have HO261 := n0_;have HO264 := n1_;have HO269 := n2_;have HO273 := n3_;have BK256 := n4_;have BK270 := n5_;have HB := n6_;clear n0_ n1_ n2_ n3_ n4_ n5_ n6_;(try clear hb);(try clear hb2);(try clear hk);(try clear hi);(try clear ho0)))
  (try simp only [Act.put, List.setIfInBounds_toArray, List.set_cons_zero, List.set_cons_succ])
  go_cut [40] (fun v40 wc => ∃ (P9_ : Nat → Prop) (kq : Nat) (x40_10 : Bool), v40 = .bool x40_10 ∧ Aside0 (laws_FnExactFortsOf.j0 kq t262 t265 t271 t274 x40_10 a0_0 l0_1 t266 t267 = some r) ∧ Aside0 (kq ≤ k) ∧ Aside0 (Kd.N (Kd.slice 3 (Kd.int .i64)) 25 wc w.heap.size (fun k_ => ¬ P9_ k_ ∧ some k_ ≠ (.slice Ao24 t267.length co24 : Value).ownBlock) v263 t262) ∧ Aside0 (Kd.S (Kd.slice 3 (Kd.int .i64)) 25 wc w.heap.size (fun k_ => P9_ k_) v272 t271) ∧ Aside0 (Kd.R k80 80 wc w.heap.size (fun _ => True) (.slice Ao24 t267.length co24) t267) ∧ Aside0 (wc.heap[gb256]? = some (.cells #[.int .i64 a0_0, (.slice A0_1 l0_1.length c0_1)] 24 (0, 0))) ∧ Aside0 (wc.heap[gb270]? = some (.cells #[.int .i64 t266, (.slice Ao24 t267.length co24)] 29 (0, 0))) ∧ Aside0 (Below w.heap.size w wc))
  case first =>
   have H := HC11.out
   clear HC11
   replace H := Option.bind_eq_some_iff.mp H
   obtain ⟨t275, A260, H⟩ := H
   replace H : (if t275 = true then (laws_FnExactFortsOf.j0 k t262 t265 t271 t274 (t274 != t265) a0_0 l0_1 t266 t267) else (laws_FnExactFortsOf.j0 k t262 t265 t271 t274 true a0_0 l0_1 t266 t267)) = some r := H
   have A26 := Aside0.mk A260
   clear A260
   by_cases c27 : t275 = true
   ·subst c27
    have H1 : (laws_FnExactFortsOf.j0 k t262 t265 t271 t274 (t274 != t265) a0_0 l0_1 t266 t267) = some r := by rw [if_pos rfl] at H;exact H
    clear H
    have H := H1
    clear H1
    have H' := Aside0.mk H
    clear H
    obtain ⟨Ao28, co28, eo28⟩ := Kd.S_slice HO273.out
    subst eo28
    obtain ⟨Ao29, co29, eo29⟩ := Kd.N_slice HO264.out
    subst eo29
    go_wp2_with (first | ((with_reducible refine gate_callee (f := 20) rfl ?_);refine goesL_ (some 34) rfl rfl Try.func20 (by kernel_rfl) rfl #[.slice Ao28 t271.length co28, .slice Ao29 t262.length co29] rfl mM ?_;(with_reducible refine (laws_eqIntSS.calls k _ _ t271 _ _ t262 true _ ?side1 ?side2 ?side3 ?side4 A26.out).mono ?_);(case side1 => exact cP (Kd.S_reads' HO273.out).2.2);(case side2 => exact (Kd.S_reads' HO273.out).2.1);(case side3 => exact cP (Kd.N_reads' HO264.out).2.2);(case side4 => exact (Kd.N_reads' HO264.out).2.1);rintro e w' ⟨rfl, ⟨nd, rfl⟩⟩;refine ⟨_, rfl, ?_⟩))
    go_meet
    case rel => exact ⟨P9_, _, ((t274 != t265)), (by first | rfl | (simp;done) | (simp [*];done)), H', ⟨by first | omega | exact Nat.le_refl _⟩, ⟨by (with_reducible repeat (first | apply Kd.R_alloc | apply Kd.S_alloc | apply Kd.N_alloc | apply Kd.R_drewN | apply Kd.S_drewN | apply Kd.N_drewN | apply Kd.R_drew | apply Kd.S_drew | apply Kd.N_drew));exact Kd.N_mono HO264.out (fun _ hk => by first | exact hk | exact hk.2 | exact hk.1 | exact hk.2.1 | exact ⟨hk.1, hk.2.1⟩ | trivial)⟩, ⟨by (with_reducible repeat (first | apply Kd.R_alloc | apply Kd.S_alloc | apply Kd.N_alloc | apply Kd.R_drewN | apply Kd.S_drewN | apply Kd.N_drewN | apply Kd.R_drew | apply Kd.S_drew | apply Kd.N_drew));exact Kd.S_mono HO273.out (fun _ hk => by first | exact hk | exact hk.2 | exact hk.1 | exact hk.2.1 | exact ⟨hk.1, hk.2.1⟩ | trivial)⟩, ⟨by (with_reducible repeat (first | apply Kd.R_alloc | apply Kd.S_alloc | apply Kd.N_alloc | apply Kd.R_drewN | apply Kd.S_drewN | apply Kd.N_drewN | apply Kd.R_drew | apply Kd.S_drew | apply Kd.N_drew));exact Kd.R_mono HO269.out (fun _ hk => trivial)⟩, ⟨by exact kP BK256.out⟩, ⟨by exact kP BK270.out⟩, ⟨by exact bB⟩⟩
   ·replace c27 := Bool.eq_false_iff.mpr c27
    subst c27
    have H1 : (laws_FnExactFortsOf.j0 k t262 t265 t271 t274 true a0_0 l0_1 t266 t267) = some r := by rw [if_neg (show ¬ (false = true) by decide)] at H;exact H
    clear H
    have H := H1
    clear H1
    have H' := Aside0.mk H
    clear H
    obtain ⟨Ao30, co30, eo30⟩ := Kd.S_slice HO273.out
    subst eo30
    obtain ⟨Ao31, co31, eo31⟩ := Kd.N_slice HO264.out
    subst eo31
    go_wp2_with (first | ((with_reducible refine gate_callee (f := 20) rfl ?_);refine goesL_ (some 34) rfl rfl Try.func20 (by kernel_rfl) rfl #[.slice Ao30 t271.length co30, .slice Ao31 t262.length co31] rfl mM ?_;(with_reducible refine (laws_eqIntSS.calls k _ _ t271 _ _ t262 false _ ?side1 ?side2 ?side3 ?side4 A26.out).mono ?_);(case side1 => exact cP (Kd.S_reads' HO273.out).2.2);(case side2 => exact (Kd.S_reads' HO273.out).2.1);(case side3 => exact cP (Kd.N_reads' HO264.out).2.2);(case side4 => exact (Kd.N_reads' HO264.out).2.1);rintro e w' ⟨rfl, ⟨nd, rfl⟩⟩;refine ⟨_, rfl, ?_⟩))
    go_meet
    case rel => exact ⟨P9_, _, (true), (by first | rfl | (simp;done) | (simp [*];done)), H', ⟨by first | omega | exact Nat.le_refl _⟩, ⟨by (with_reducible repeat (first | apply Kd.R_alloc | apply Kd.S_alloc | apply Kd.N_alloc | apply Kd.R_drewN | apply Kd.S_drewN | apply Kd.N_drewN | apply Kd.R_drew | apply Kd.S_drew | apply Kd.N_drew));exact Kd.N_mono HO264.out (fun _ hk => by first | exact hk | exact hk.2 | exact hk.1 | exact hk.2.1 | exact ⟨hk.1, hk.2.1⟩ | trivial)⟩, ⟨by (with_reducible repeat (first | apply Kd.R_alloc | apply Kd.S_alloc | apply Kd.N_alloc | apply Kd.R_drewN | apply Kd.S_drewN | apply Kd.N_drewN | apply Kd.R_drew | apply Kd.S_drew | apply Kd.N_drew));exact Kd.S_mono HO273.out (fun _ hk => by first | exact hk | exact hk.2 | exact hk.1 | exact hk.2.1 | exact ⟨hk.1, hk.2.1⟩ | trivial)⟩, ⟨by (with_reducible repeat (first | apply Kd.R_alloc | apply Kd.S_alloc | apply Kd.N_alloc | apply Kd.R_drewN | apply Kd.S_drewN | apply Kd.N_drewN | apply Kd.R_drew | apply Kd.S_drew | apply Kd.N_drew));exact Kd.R_mono HO269.out (fun _ hk => trivial)⟩, ⟨by exact kP BK256.out⟩, ⟨by exact kP BK270.out⟩, ⟨by exact bB⟩⟩
  case rest =>
   clear HC11
   try clear c1
   try clear c2
   try clear p2
   try clear c3
   try clear c3b0
   try clear c8
   try clear c9
   try clear c11
   try clear c20
   try clear c22
   try clear c27
   try clear c30
   try clear c31
   try clear hcz13_0
   try clear hcz13_1
   try clear hcz15_0
   try clear hcz15_1
   try clear hcz19_0
   try clear hcz19_1
   try clear hcz23_0
   try clear hcz23_1
   try clear hcz5_0
   try clear hcz5_1
   try clear hfz13_0
   try clear hfz13_1
   try clear hfz15_0
   try clear hfz15_1
   try clear hfz19_0
   try clear hfz19_1
   try clear hfz23_0
   try clear hfz23_1
   try clear hfz5_0
   try clear hfz5_1
   obtain ⟨P9_, kq, x40_10, rfl, HA, HJ10, HO_4, HO_7, HO_271001, BK256, BK270, HB⟩ := hcut
   cases kq with
   | zero => exact absurd HA.out (by simp [laws_FnExactFortsOf.j0])
   | succ kj10 =>
    have H := HA.out
    clear HA
    simp only [laws_FnExactFortsOf.j0] at H
    by_cases c32 : x40_10 = true
    ·subst c32
     have H1 : (some false) = some r := by rw [if_pos rfl] at H;exact H
     clear H
     have H := H1
     clear H1
     obtain rfl := Option.some.inj H
     go_wp2
     go_ret
     exact ⟨by first | rfl | (simp [errW_none, errW_some] <;> rfl) | (simp [*, errW_none, errW_some] <;> rfl), by exact bB⟩
    ·replace c32 := Bool.eq_false_iff.mpr c32
     subst c32
     have H1 : ((laws_toGraph.f kj10 a0_0 l0_1).bind fun bt276 => ((laws_eqGraph.f kj10 t266 t267 bt276.1 bt276.2).bind fun t280 => (if t280 = true then ((laws_markGraph.f t266 t267 1).bind fun bt281 => (if bt281.1 < 0 then (laws_FnExactFortsOf.j1 kj10 t262 t265 t271 true a0_0 l0_1) else ((laws_eqIntSS.f kj10 t271 t262).bind fun t283 => (if t283 = true then (laws_FnExactFortsOf.j1 kj10 t262 t265 t271 (t274 != t265) a0_0 l0_1) else (laws_FnExactFortsOf.j1 kj10 t262 t265 t271 true a0_0 l0_1))))) else (some false)))) = some r := by rw [if_neg (show ¬ (false = true) by decide)] at H;exact H
     clear H
     have H := H1
     clear H1
     replace H := Option.bind_eq_some_iff.mp H
     obtain ⟨⟨t276, t277⟩, A330, H⟩ := H
     replace H : ((laws_eqGraph.f kj10 t266 t267 t276 t277).bind fun t280 => (if t280 = true then ((laws_markGraph.f t266 t267 1).bind fun bt281 => (if bt281.1 < 0 then (laws_FnExactFortsOf.j1 kj10 t262 t265 t271 true a0_0 l0_1) else ((laws_eqIntSS.f kj10 t271 t262).bind fun t283 => (if t283 = true then (laws_FnExactFortsOf.j1 kj10 t262 t265 t271 (t274 != t265) a0_0 l0_1) else (laws_FnExactFortsOf.j1 kj10 t262 t265 t271 true a0_0 l0_1))))) else (some false))) = some r := H
     have A33 := Aside0.mk A330
     clear A330
     replace H := Option.bind_eq_some_iff.mp H
     obtain ⟨t280, A340, H⟩ := H
     replace H : (if t280 = true then ((laws_markGraph.f t266 t267 1).bind fun bt281 => (if bt281.1 < 0 then (laws_FnExactFortsOf.j1 kj10 t262 t265 t271 true a0_0 l0_1) else ((laws_eqIntSS.f kj10 t271 t262).bind fun t283 => (if t283 = true then (laws_FnExactFortsOf.j1 kj10 t262 t265 t271 (t274 != t265) a0_0 l0_1) else (laws_FnExactFortsOf.j1 kj10 t262 t265 t271 true a0_0 l0_1))))) else (some false)) = some r := H
     have A34 := Aside0.mk A340
     clear A340
     by_cases c35 : t280 = true
     ·subst c35
      have H1 : ((laws_markGraph.f t266 t267 1).bind fun bt281 => (if bt281.1 < 0 then (laws_FnExactFortsOf.j1 kj10 t262 t265 t271 true a0_0 l0_1) else ((laws_eqIntSS.f kj10 t271 t262).bind fun t283 => (if t283 = true then (laws_FnExactFortsOf.j1 kj10 t262 t265 t271 (t274 != t265) a0_0 l0_1) else (laws_FnExactFortsOf.j1 kj10 t262 t265 t271 true a0_0 l0_1))))) = some r := by rw [if_pos rfl] at H;exact H
      clear H
      have H := H1
      clear H1
      replace H := Option.bind_eq_some_iff.mp H
      obtain ⟨⟨t281, t282⟩, A360, H⟩ := H
      replace H : (if t281 < 0 then (laws_FnExactFortsOf.j1 kj10 t262 t265 t271 true a0_0 l0_1) else ((laws_eqIntSS.f kj10 t271 t262).bind fun t283 => (if t283 = true then (laws_FnExactFortsOf.j1 kj10 t262 t265 t271 (t274 != t265) a0_0 l0_1) else (laws_FnExactFortsOf.j1 kj10 t262 t265 t271 true a0_0 l0_1)))) = some r := H
      have A36 := Aside0.mk A360
      clear A360
      have HC37 := Aside0.mk H
      clear H
      try go_wp2
      have n0_ := Aside0.mk (Kd.N_drew HO_4.out)
      have n1_ := Aside0.mk (Kd.S_drew HO_7.out)
      have n2_ := Aside0.mk (Kd.R_drew HO_271001.out)
      have n3_ := Aside0.mk (blk_drew BK256.out)
      have n4_ := Aside0.mk (blk_drew BK270.out)
      have n5_ := Aside0.mk (below_drew1 HB.out)
      clear HO_4
      clear HO_7
      clear HO_271001
      clear BK256
      clear BK270
      clear HB
      have HO_4 := n0_
      have HO_7 := n1_
      have HO_271001 := n2_
      have BK256 := n3_
      have BK270 := n4_
      have HB := n5_
      clear n0_ n1_ n2_ n3_ n4_ n5_
      refine start_ (n := 5) (S := fun w' => w'.cell? ⟨gb270, 0, none⟩ = some (.int .i64 t266) ∧ w'.cell? ⟨gb270, 1, none⟩ = some (.slice Ao24 t267.length co24) ∧ w'.cell? ⟨gb256, 0, none⟩ = some (.int .i64 a0_0) ∧ w'.cell? ⟨gb256, 1, none⟩ = some (.slice A0_1 l0_1.length c0_1)) (ds := []) #[false,false,false,false,false] (by kernel_rfl) rfl rfl ⟨(blk_cell BK270.out 0).trans rfl, (blk_cell BK270.out 1).trans rfl, (blk_cell BK256.out 0).trans rfl, (blk_cell BK256.out 1).trans rfl⟩ (fun hHeld => ?_)
      generalize wc.drew = w38 at HO_4 HO_7 HO_271001 BK256 BK270 HB hHeld ⊢
      refine take_ (i := 0) (N := some 41) (v := ?_) (a' := ?_) #[true,false,false,false,false] rfl rfl (by kernel_rfl) (fun _ _ _ h => h) (Or.inl ⟨by rfl, ?_⟩) hHeld ?_ ?_
      rotate_left
      ·rintro w' ⟨s0, s1, s2, s3⟩
       go_simp
       with_reducible rfl
      rotate_left
      ·simp only [Act.put, List.setIfInBounds_toArray, List.set_cons_zero, List.set_cons_succ, i64_w, i32_w]
       rfl
      refine take_ (i := 1) (N := some 42) (v := ?_) (a' := ?_) #[true,true,false,false,false] rfl rfl (by kernel_rfl) (fun _ _ _ h => h) (Or.inl ⟨by rfl, ?_⟩) hHeld ?_ ?_
      rotate_left
      ·rintro w' ⟨s0, s1, s2, s3⟩
       go_simp
       with_reducible rfl
      rotate_left
      ·simp only [Act.put, List.setIfInBounds_toArray, List.set_cons_zero, List.set_cons_succ, i64_w, i32_w]
       rfl
      refine one_ (i := 2) (N := some 43) #[true,true,true,false,false] rfl rfl (by kernel_rfl) (by decide) (fun K hK => ?_)
      refine goes_ Try.func11 (by kernel_rfl) rfl #[.agg #[.int .i64 a0_0, .slice A0_1 l0_1.length c0_1]] (by rfl) rfl rfl mM ?_
      with_reducible refine (laws_toGraph.calls kj10 a0_0 _ _ l0_1 t276 t277 _ ?side1 ?side2 A33.out).mono ?_
      (case side1 => exact cP (Kd.C_below HR0_1.out HB.out))
      (case side2 => exact HC0_1.out)
      rintro e w39 ⟨v278, rfl, ho0, hb⟩
      refine ⟨_, rfl, ?_⟩
      have n0_ := Aside0.mk (Kd.N_below (by (with_reducible repeat (first | apply Kd.R_alloc | apply Kd.S_alloc | apply Kd.N_alloc | apply Kd.R_drewN | apply Kd.S_drewN | apply Kd.N_drewN | apply Kd.R_drew | apply Kd.S_drew | apply Kd.N_drew));exact HO_4.out) hb)
      have n1_ := Aside0.mk (Kd.S_below (by (with_reducible repeat (first | apply Kd.R_alloc | apply Kd.S_alloc | apply Kd.N_alloc | apply Kd.R_drewN | apply Kd.S_drewN | apply Kd.N_drewN | apply Kd.R_drew | apply Kd.S_drew | apply Kd.N_drew));exact HO_7.out) hb)
      have n2_ := Aside0.mk (Kd.R_elder' (by (with_reducible repeat (first | apply Kd.R_alloc | apply Kd.S_alloc | apply Kd.N_alloc | apply Kd.R_drewN | apply Kd.S_drewN | apply Kd.N_drewN | apply Kd.R_drew | apply Kd.S_drew | apply Kd.N_drew));exact HO_271001.out) (Kd.R_base ho0) hb)
      have n3_ := Aside0.mk (Kd.R_lower (Kd.R_new' ho0 (Kd.R_lt (by (with_reducible repeat (first | apply Kd.R_alloc | apply Kd.S_alloc | apply Kd.N_alloc | apply Kd.R_drewN | apply Kd.S_drewN | apply Kd.N_drewN | apply Kd.R_drew | apply Kd.S_drew | apply Kd.N_drew));exact HO_271001.out))) (below_size (by exact bB)))
      have n4_ := Aside0.mk (blk_below (g := gb256) (o := .cells #[.int .i64 a0_0, .slice A0_1 l0_1.length c0_1] 24 (0, 0)) (by exact kP BK256.out) hb)
      have n5_ := Aside0.mk (blk_below (g := gb270) (o := .cells #[.int .i64 t266, .slice Ao24 t267.length co24] 29 (0, 0)) (by exact kP BK270.out) hb)
      have n6_ := Aside0.mk (below_step (by exact bB) hb)
      clear HO_4
      clear HO_7
      clear HO_271001
      clear BK256
      clear BK270
      clear HB
      have HO_4 := n0_
      have HO_7 := n1_
      have HO_271001 := n2_
      have HO279 := n3_
      have BK256 := n4_
      have BK270 := n5_
      have HB := n6_
      clear n0_ n1_ n2_ n3_ n4_ n5_ n6_
      (try clear hb)
      (try clear hb2)
      (try clear hk)
      (try clear hi)
      (try clear ho0)
      obtain ⟨Ao40, co40, eo40⟩ := Kd.R_slice HO279.out
      (first | subst eo40 | (injection eo40 with f1_ f2_ f3_;have f4_ := f1_.symm;have f5_ := f3_.symm;clear f1_ f2_ f3_;subst f4_;subst f5_))
      refine hK.out _ _ ⟨(blk_cell BK270.out 0).trans rfl, (blk_cell BK270.out 1).trans rfl, (blk_cell BK256.out 0).trans rfl, (blk_cell BK256.out 1).trans rfl⟩ (fun hHeld => ?_)
      clear hK K
      refine norm_ (a' := ?_) ?_ ?_
      rotate_left
      ·show Act.put _ (some 43) _ = _
       simp only [Act.put, List.setIfInBounds_toArray, List.set_cons_zero, List.set_cons_succ, i64_w, i32_w]
       rfl
      refine one_ (i := 3) (N := some 44) #[true,true,true,true,false] rfl rfl (by kernel_rfl) (by decide) (fun K hK => ?_)
      refine goes_ Try.func14 (by kernel_rfl) rfl #[.agg #[.int .i64 t266, .slice Ao24 t267.length co24], .agg #[.int .i64 t276, .slice Ao40 t277.length co40]] (by rfl) rfl rfl mM ?_
      with_reducible refine (laws_eqGraph.calls kj10 t266 _ _ t267 t276 _ _ t277 true _ ?side1 ?side2 ?side3 ?side4 A34.out).mono ?_
      (case side1 => exact cP (Kd.R_reads' HO_271001.out).2.2)
      (case side2 => exact (Kd.R_reads' HO_271001.out).2.1)
      (case side3 => exact cP (Kd.R_reads' HO279.out).2.2)
      (case side4 => exact (Kd.R_reads' HO279.out).2.1)
      rintro e w41 ⟨rfl, hb⟩
      refine ⟨_, rfl, ?_⟩
      have n0_ := Aside0.mk (Kd.N_below (by (with_reducible repeat (first | apply Kd.R_alloc | apply Kd.S_alloc | apply Kd.N_alloc | apply Kd.R_drewN | apply Kd.S_drewN | apply Kd.N_drewN | apply Kd.R_drew | apply Kd.S_drew | apply Kd.N_drew));exact HO_4.out) hb)
      have n1_ := Aside0.mk (Kd.S_below (by (with_reducible repeat (first | apply Kd.R_alloc | apply Kd.S_alloc | apply Kd.N_alloc | apply Kd.R_drewN | apply Kd.S_drewN | apply Kd.N_drewN | apply Kd.R_drew | apply Kd.S_drew | apply Kd.N_drew));exact HO_7.out) hb)
      have n2_ := Aside0.mk (Kd.R_below (by (with_reducible repeat (first | apply Kd.R_alloc | apply Kd.S_alloc | apply Kd.N_alloc | apply Kd.R_drewN | apply Kd.S_drewN | apply Kd.N_drewN | apply Kd.R_drew | apply Kd.S_drew | apply Kd.N_drew));exact HO_271001.out) hb)
      have n3_ := Aside0.mk (Kd.R_below (by (with_reducible repeat (first | apply Kd.R_alloc | apply Kd.S_alloc | apply Kd.N_alloc | apply Kd.R_drewN | apply Kd.S_drewN | apply Kd.N_drewN | apply Kd.R_drew | apply Kd.S_drew | apply Kd.N_drew));exact HO279.out) hb)
      have n4_ := Aside0.mk (blk_below (g := gb256) (o := .cells #[.int .i64 a0_0, .slice A0_1 l0_1.length c0_1] 24 (0, 0)) (by exact kP BK256.out) hb)
      have n5_ := Aside0.mk (blk_below (g := gb270) (o := .cells #[.int .i64 t266, .slice Ao24 t267.length co24] 29 (0, 0)) (by exact kP BK270.out) hb)
      have n6_ := Aside0.mk (below_step (by exact bB) hb)
      clear HO_4
      clear HO_7
      clear HO_271001
      clear HO279
      clear BK256
      clear BK270
      clear HB
      have HO_4 := n0_
      have HO_7 := n1_
      have HO_271001 := n2_
      have HO279 := n3_
      have BK256 := n4_
      have BK270 := n5_
      have HB := n6_
      clear n0_ n1_ n2_ n3_ n4_ n5_ n6_
      (try clear hb)
      (try clear hb2)
      (try clear hk)
      (try clear hi)
      refine hK.out _ _ ⟨(blk_cell BK270.out 0).trans rfl, (blk_cell BK270.out 1).trans rfl, (blk_cell BK256.out 0).trans rfl, (blk_cell BK256.out 1).trans rfl⟩ (fun hHeld => ?_)
      clear hK K
      refine norm_ (a' := ?_) ?_ ?_
      rotate_left
      ·show Act.put _ (some 44) _ = _
       simp only [Act.put, List.setIfInBounds_toArray, List.set_cons_zero, List.set_cons_succ, i64_w, i32_w]
       rfl
      refine pure_ (i := 4) (N := some 45) (v := ?_) (a' := ?_) #[true,true,true,true,true] rfl rfl (by kernel_rfl) (fun _ _ _ h => h) (Or.inl ⟨by rfl, ?_⟩) ?_ ?_
      rotate_left
      ·intro w'
       go_simp
       with_reducible rfl
      rotate_left
      ·simp only [Act.put, List.setIfInBounds_toArray, List.set_cons_zero, List.set_cons_succ, i64_w, i32_w]
       rfl
      refine done_ (by kernel_rfl) ?_
      have hnb42 := NB270_256.out
      have hnc42 := NB256_270.out
      have hcz43_0 : w41.cell? ⟨gb270, 0, none⟩ = some (.int .i64 t266) := (blk_cell BK270.out 0).trans rfl
      have hcz43_1 : w41.cell? ⟨gb270, 1, none⟩ = some (.slice Ao24 t267.length co24) := (blk_cell BK270.out 1).trans rfl
      have hfz43_0 := blk_frozen BK270.out 0
      have hfz43_1 := blk_frozen BK270.out 1
      go_upto_region 14 with (first | ((with_reducible refine gate_callee (f := 21) rfl ?_);refine goesL_ (some 48) rfl rfl Try.func21 (by kernel_rfl) rfl #[.agg #[.int .i64 t266, .slice Ao24 t267.length co24], .int .i64 1] rfl mM ?_;(with_reducible refine (laws_markGraph.calls t266 (fun k_ => some k_ = (.slice Ao24 t267.length co24 : Value).ownBlock) (.slice Ao24 t267.length co24) t267 1 t281 t282 w _ ?side1 ?side2 A36.out).mono ?_);(case side1 => exact bB);(case side2 => exact Kd.R_tight rfl HO_271001.out);rintro e w44 ⟨rfl, hy0, hb, hkp⟩;refine ⟨_, rfl, ?_⟩;have n0_ := Aside0.mk (Kd.N_mono (ok' := fun k_ => ¬ P9_ k_) (Kd.N_keptB HO_4.out hkp (fun k_ hk_ hs_ => hk_.2 hs_)) (fun k_ hk_ => hk_.1.1));have n1_ := Aside0.mk (Kd.S_mono (ok' := fun k_ => P9_ k_) (Kd.S_keptB (Kd.S_apart' HO_7.out (Kd.R_typed HO_271001.out) (by decide)) hkp (fun k_ hk_ hs_ => hk_.2 hs_)) (fun k_ hk_ => hk_.1.1));have n2_ := Aside0.mk (Kd.R_reok rfl hy0 (fun k_ e_ => HO_271001.out.1 k_ e_));have n3_ := Aside0.mk (blk_kept (by exact kP BK256.out) hkp (fun hs_ => (fun e_ => (Kd.R_ne HO_271001.out BK256.out (by decide)) e_) hs_));have n4_ := Aside0.mk (blk_kept (by exact kP BK270.out) hkp (fun hs_ => (fun e_ => (Kd.R_ne HO_271001.out BK270.out (by decide)) e_) hs_));have n5_ := Aside0.mk (Kd.R_mono (ok' := fun k_ => some k_ ≠ (.slice Ao24 t267.length co24 : Value).ownBlock) (Kd.R_keptB (HO279.out) hkp (fun k_ hk_ hs_ => (hk_.2) hs_)) (fun k_ hk_ => hk_.1.2));have n6_ := Aside0.mk (hb);clear HO_4;clear HO_7;clear HO_271001;clear BK256;clear BK270;clear HO279;clear HB;have HO_4 := n0_;have HO_7 := n1_;have HO_271001 := n2_;have BK256 := n3_;have BK270 := n4_;have HO279 := n5_;have HB := n6_;clear n0_ n1_ n2_ n3_ n4_ n5_ n6_;(try clear hb);(try clear hkp);(try clear hy0)))
      (try simp only [Act.put, List.setIfInBounds_toArray, List.set_cons_zero, List.set_cons_succ])
      go_cut [61] (fun v61 wc => ∃ (P9_ : Nat → Prop) (kq : Nat) (x61_36 : Bool), v61 = .bool x61_36 ∧ Aside0 (laws_FnExactFortsOf.j1 kq t262 t265 t271 x61_36 a0_0 l0_1 = some r) ∧ Aside0 (kq ≤ kj10) ∧ Aside0 (Kd.N (Kd.slice 3 (Kd.int .i64)) 25 wc w.heap.size (fun k_ => ¬ P9_ k_) v263 t262) ∧ Aside0 (Kd.S (Kd.slice 3 (Kd.int .i64)) 25 wc w.heap.size (fun k_ => P9_ k_) v272 t271) ∧ Aside0 (Kd.R k80 80 wc w.heap.size (fun _ => True) (.slice Ao24 t267.length co24) t282) ∧ Aside0 (wc.heap[gb256]? = some (.cells #[.int .i64 a0_0, (.slice A0_1 l0_1.length c0_1)] 24 (0, 0))) ∧ Aside0 (wc.heap[gb270]? = some (.cells #[.int .i64 t266, (.slice Ao24 t267.length co24)] 29 (0, 0))) ∧ Aside0 (Below w.heap.size w wc))
      case first =>
       have H := HC37.out
       clear HC37
       by_cases c45 : t281 < 0
       ·rw [if_pos c45] at H
        have c45b0 : decide (t281 < 0) = true := decide_eq_true c45
        clear c45
        (first | rw [c45b0] | (simp only [i64_w, i32_w];rw [c45b0]) | skip)
        have H' := Aside0.mk H
        clear H
        go_wp2
        go_meet
        case rel => exact ⟨P9_, _, (true), (by first | rfl | (simp;done) | (simp [*];done)), H', ⟨by have := HJ10.out;first | omega | exact Nat.le_refl _⟩, ⟨by (with_reducible repeat (first | apply Kd.R_alloc | apply Kd.S_alloc | apply Kd.N_alloc | apply Kd.R_drewN | apply Kd.S_drewN | apply Kd.N_drewN | apply Kd.R_drew | apply Kd.S_drew | apply Kd.N_drew));exact HO_4.out⟩, ⟨by (with_reducible repeat (first | apply Kd.R_alloc | apply Kd.S_alloc | apply Kd.N_alloc | apply Kd.R_drewN | apply Kd.S_drewN | apply Kd.N_drewN | apply Kd.R_drew | apply Kd.S_drew | apply Kd.N_drew));exact HO_7.out⟩, ⟨by (with_reducible repeat (first | apply Kd.R_alloc | apply Kd.S_alloc | apply Kd.N_alloc | apply Kd.R_drewN | apply Kd.S_drewN | apply Kd.N_drewN | apply Kd.R_drew | apply Kd.S_drew | apply Kd.N_drew));exact Kd.R_mono HO_271001.out (fun _ hk => trivial)⟩, ⟨by exact kP BK256.out⟩, ⟨by exact kP BK270.out⟩, ⟨by exact bB⟩⟩
       ·rw [if_neg c45] at H
        have c45b0 : decide (t281 < 0) = false := decide_eq_false c45
        clear c45
        (first | rw [c45b0] | (simp only [i64_w, i32_w];rw [c45b0]) | skip)
        replace H := Option.bind_eq_some_iff.mp H
        obtain ⟨t283, A460, H⟩ := H
        replace H : (if t283 = true then (laws_FnExactFortsOf.j1 kj10 t262 t265 t271 (t274 != t265) a0_0 l0_1) else (laws_FnExactFortsOf.j1 kj10 t262 t265 t271 true a0_0 l0_1)) = some r := H
        have A46 := Aside0.mk A460
        clear A460
        by_cases c47 : t283 = true
        ·subst c47
         have H1 : (laws_FnExactFortsOf.j1 kj10 t262 t265 t271 (t274 != t265) a0_0 l0_1) = some r := by rw [if_pos rfl] at H;exact H
         clear H
         have H := H1
         clear H1
         have H' := Aside0.mk H
         clear H
         obtain ⟨Ao48, co48, eo48⟩ := Kd.S_slice HO_7.out
         subst eo48
         obtain ⟨Ao49, co49, eo49⟩ := Kd.N_slice HO_4.out
         subst eo49
         go_wp2_with (first | (go_at_call 20;(with_reducible refine (laws_eqIntSS.calls kj10 _ _ t271 _ _ t262 true _ ?side1 ?side2 ?side3 ?side4 A46.out).mono ?_);(case side1 => exact cP (Kd.S_reads' HO_7.out).2.2);(case side2 => exact (Kd.S_reads' HO_7.out).2.1);(case side3 => exact cP (Kd.N_reads' HO_4.out).2.2);(case side4 => exact (Kd.N_reads' HO_4.out).2.1);rintro e w' ⟨rfl, ⟨nd, rfl⟩⟩))
         go_meet
         case rel => exact ⟨P9_, _, ((t274 != t265)), (by first | rfl | (simp;done) | (simp [*];done)), H', ⟨by have := HJ10.out;first | omega | exact Nat.le_refl _⟩, ⟨by (with_reducible repeat (first | apply Kd.R_alloc | apply Kd.S_alloc | apply Kd.N_alloc | apply Kd.R_drewN | apply Kd.S_drewN | apply Kd.N_drewN | apply Kd.R_drew | apply Kd.S_drew | apply Kd.N_drew));exact HO_4.out⟩, ⟨by (with_reducible repeat (first | apply Kd.R_alloc | apply Kd.S_alloc | apply Kd.N_alloc | apply Kd.R_drewN | apply Kd.S_drewN | apply Kd.N_drewN | apply Kd.R_drew | apply Kd.S_drew | apply Kd.N_drew));exact HO_7.out⟩, ⟨by (with_reducible repeat (first | apply Kd.R_alloc | apply Kd.S_alloc | apply Kd.N_alloc | apply Kd.R_drewN | apply Kd.S_drewN | apply Kd.N_drewN | apply Kd.R_drew | apply Kd.S_drew | apply Kd.N_drew));exact Kd.R_mono HO_271001.out (fun _ hk => trivial)⟩, ⟨by exact kP BK256.out⟩, ⟨by exact kP BK270.out⟩, ⟨by exact bB⟩⟩
        ·replace c47 := Bool.eq_false_iff.mpr c47
         subst c47
         have H1 : (laws_FnExactFortsOf.j1 kj10 t262 t265 t271 true a0_0 l0_1) = some r := by rw [if_neg (show ¬ (false = true) by decide)] at H;exact H
         clear H
         have H := H1
         clear H1
         have H' := Aside0.mk H
         clear H
         obtain ⟨Ao50, co50, eo50⟩ := Kd.S_slice HO_7.out
         subst eo50
         obtain ⟨Ao51, co51, eo51⟩ := Kd.N_slice HO_4.out
         subst eo51
         go_wp2_with (first | (go_at_call 20;(with_reducible refine (laws_eqIntSS.calls kj10 _ _ t271 _ _ t262 false _ ?side1 ?side2 ?side3 ?side4 A46.out).mono ?_);(case side1 => exact cP (Kd.S_reads' HO_7.out).2.2);(case side2 => exact (Kd.S_reads' HO_7.out).2.1);(case side3 => exact cP (Kd.N_reads' HO_4.out).2.2);(case side4 => exact (Kd.N_reads' HO_4.out).2.1);rintro e w' ⟨rfl, ⟨nd, rfl⟩⟩))
         go_meet
         case rel => exact ⟨P9_, _, (true), (by first | rfl | (simp;done) | (simp [*];done)), H', ⟨by have := HJ10.out;first | omega | exact Nat.le_refl _⟩, ⟨by (with_reducible repeat (first | apply Kd.R_alloc | apply Kd.S_alloc | apply Kd.N_alloc | apply Kd.R_drewN | apply Kd.S_drewN | apply Kd.N_drewN | apply Kd.R_drew | apply Kd.S_drew | apply Kd.N_drew));exact HO_4.out⟩, ⟨by (with_reducible repeat (first | apply Kd.R_alloc | apply Kd.S_alloc | apply Kd.N_alloc | apply Kd.R_drewN | apply Kd.S_drewN | apply Kd.N_drewN | apply Kd.R_drew | apply Kd.S_drew | apply Kd.N_drew));exact HO_7.out⟩, ⟨by (with_reducible repeat (first | apply Kd.R_alloc | apply Kd.S_alloc | apply Kd.N_alloc | apply Kd.R_drewN | apply Kd.S_drewN | apply Kd.N_drewN | apply Kd.R_drew | apply Kd.S_drew | apply Kd.N_drew));exact Kd.R_mono HO_271001.out (fun _ hk => trivial)⟩, ⟨by exact kP BK256.out⟩, ⟨by exact kP BK270.out⟩, ⟨by exact bB⟩⟩
      case rest =>
       clear HC37
       try clear c1
       try clear c2
       try clear p2
       try clear c3
       try clear c3b0
       try clear c4
       try clear c8
       try clear c9
       try clear c11
       try clear c14
       try clear c20
       try clear c21
       try clear c22
       try clear c27
       try clear c30
       try clear c31
       try clear c32
       try clear c35
       try clear c42
       try clear c45
       try clear c45b0
       try clear c47
       try clear hcz13_0
       try clear hcz13_1
       try clear hcz15_0
       try clear hcz15_1
       try clear hcz19_0
       try clear hcz19_1
       try clear hcz23_0
       try clear hcz23_1
       try clear hcz43_0
       try clear hcz43_1
       try clear hcz5_0
       try clear hcz5_1
       try clear hfz13_0
       try clear hfz13_1
       try clear hfz15_0
       try clear hfz15_1
       try clear hfz19_0
       try clear hfz19_1
       try clear hfz23_0
       try clear hfz23_1
       try clear hfz43_0
       try clear hfz43_1
       try clear hfz5_0
       try clear hfz5_1
       try clear p2
       obtain ⟨P9_, kq, x61_36, rfl, HA, HJ36, HO_4, HO_7, HO_271001, BK256, BK270, HB⟩ := hcut
       have hl271001_36 := (Kd.R_reads' HO_271001.out).1
       rw [hl271001_36] at HO_271001
       (try simp only [hl271001_36])
       (try simp only [hl271001_36] at BK256)
       (try simp only [hl271001_36] at BK270)
       (try simp only [hl271001_36] at HO_4)
       (try simp only [hl271001_36] at HO_7)
       cases kq with
       | zero => exact absurd HA.out (by simp [laws_FnExactFortsOf.j1])
       | succ kj36 =>
        have H := HA.out
        clear HA
        simp only [laws_FnExactFortsOf.j1] at H
        by_cases c52 : x61_36 = true
        ·subst c52
         have H1 : (some false) = some r := by rw [if_pos rfl] at H;exact H
         clear H
         have H := H1
         clear H1
         obtain rfl := Option.some.inj H
         go_wp2
         go_ret
         exact ⟨by first | rfl | (simp [errW_none, errW_some] <;> rfl) | (simp [*, errW_none, errW_some] <;> rfl), by exact bB⟩
        ·replace c52 := Bool.eq_false_iff.mpr c52
         subst c52
         have H1 : ((laws_markIntSS.f kj36 t271 1).bind fun bt284 => ((laws_heldIntSS.f kj36 bt284.2 1).bind fun t286 => (if t286 < 0 then (some false) else (if t286 = bt284.1 then ((laws_toGraph.f kj36 a0_0 l0_1).bind fun bt287 => ((impl_FortsOf.f kj36 bt287.1 bt287.2).bind fun bt291 => ((laws_eqIntSS.f kj36 bt291.1 t262).bind fun t295 => (if t295 = true then (laws_FnExactFortsOf.j2 kj36 bt284.2 bt284.1 (bt291.2 != t265)) else (laws_FnExactFortsOf.j2 kj36 bt284.2 bt284.1 true))))) else (some false))))) = some r := by rw [if_neg (show ¬ (false = true) by decide)] at H;exact H
         clear H
         have H := H1
         clear H1
         replace H := Option.bind_eq_some_iff.mp H
         obtain ⟨⟨t284, t285⟩, A530, H⟩ := H
         replace H : ((laws_heldIntSS.f kj36 t285 1).bind fun t286 => (if t286 < 0 then (some false) else (if t286 = t284 then ((laws_toGraph.f kj36 a0_0 l0_1).bind fun bt287 => ((impl_FortsOf.f kj36 bt287.1 bt287.2).bind fun bt291 => ((laws_eqIntSS.f kj36 bt291.1 t262).bind fun t295 => (if t295 = true then (laws_FnExactFortsOf.j2 kj36 t285 t284 (bt291.2 != t265)) else (laws_FnExactFortsOf.j2 kj36 t285 t284 true))))) else (some false)))) = some r := H
         have A53 := Aside0.mk A530
         clear A530
         replace H := Option.bind_eq_some_iff.mp H
         obtain ⟨t286, A540, H⟩ := H
         replace H : (if t286 < 0 then (some false) else (if t286 = t284 then ((laws_toGraph.f kj36 a0_0 l0_1).bind fun bt287 => ((impl_FortsOf.f kj36 bt287.1 bt287.2).bind fun bt291 => ((laws_eqIntSS.f kj36 bt291.1 t262).bind fun t295 => (if t295 = true then (laws_FnExactFortsOf.j2 kj36 t285 t284 (bt291.2 != t265)) else (laws_FnExactFortsOf.j2 kj36 t285 t284 true))))) else (some false))) = some r := H
         have A54 := Aside0.mk A540
         clear A540
         by_cases c55 : t286 < 0
         ·rw [if_pos c55] at H
          have c55b0 : decide (t286 < 0) = true := decide_eq_true c55
          clear c55
          obtain rfl := Option.some.inj H
          obtain ⟨Ao56, co56, eo56⟩ := Kd.S_slice HO_7.out
          subst eo56
          go_wp2_with (first | ((with_reducible refine gate_callee (f := 22) rfl ?_);refine goesL_ (some 64) rfl rfl Try.func22 (by kernel_rfl) rfl #[.slice Ao56 t271.length co56, .int .i64 1] rfl mM ?_;(with_reducible refine (laws_markIntSS.calls kj36 ?P9a0 (.slice Ao56 t271.length co56) t271 1 t284 t285 w _ ?side1 ?side2 A53.out).mono ?_);(case side1 => exact bB);(case side2 => exact mine9 HO_7.out);rintro e w57 ⟨rfl, hy0, hb, hkp⟩;refine ⟨_, rfl, ?_⟩;have n0_ := Aside0.mk (Kd.N_mono (ok' := fun k_ => ¬ P9_ k_) (Kd.N_keptB HO_4.out hkp (fun k_ hk_ hs_ => hk_ hs_.1)) (fun k_ hk_ => hk_.1));have n1_ := Aside0.mk (Kd.S_mono (ok' := fun k_ => True) hy0 (fun _ _ => trivial));have n2_ := Aside0.mk (Kd.R_mono (ok' := fun k_ => True) (Kd.R_keptB (mine9_R HO_271001.out (by decide)) hkp (fun k_ hk_ hs_ => hk_ hs_)) (fun k_ hk_ => trivial));have n3_ := Aside0.mk (blk_kept (by exact kP BK256.out) hkp (fun hs_ => mine9_block hs_ BK256.out (by decide)));have n4_ := Aside0.mk (blk_kept (by exact kP BK270.out) hkp (fun hs_ => mine9_block hs_ BK270.out (by decide)));have n5_ := Aside0.mk (hb);clear HO_4;clear HO_7;clear HO_271001;clear BK256;clear BK270;clear HB;have HO_4 := n0_;have HO_7 := n1_;have HO_271001 := n2_;have BK256 := n3_;have BK270 := n4_;have HB := n5_;clear n0_ n1_ n2_ n3_ n4_ n5_;(try clear hb);(try clear hkp);(try clear hy0)) | ((with_reducible refine gate_callee (f := 23) rfl ?_);refine goesL_ (some 67) rfl rfl Try.func23 (by kernel_rfl) rfl #[.slice Ao56 t285.length co56, .int .i64 1] rfl (by (try simp only [List.map_toArray, List.map_cons, List.map_nil]);first | done | (rw [show t285.length = t271.length from (Kd.S_reads' HO_7.out).1.symm] <;> rfl) | rfl | (simp only [List.length_drop, List.length_take];rfl)) ?_;(with_reducible refine (laws_heldIntSS.calls kj36 _ _ t285 1 t286 _ ?side1 ?side2 A54.out).mono ?_);(case side1 => exact cP (Kd.S_reads' HO_7.out).2.2);(case side2 => rw [show t285.length = t271.length from (Kd.S_reads' HO_7.out).1.symm];exact (Kd.S_reads' HO_7.out).2.1);rintro e w' ⟨rfl, ⟨nd, rfl⟩⟩;refine ⟨_, rfl, ?_⟩))
          go_ret
          exact ⟨by first | rfl | (simp [errW_none, errW_some] <;> rfl) | (simp [*, errW_none, errW_some] <;> rfl), by exact bB⟩
         ·rw [if_neg c55] at H
          have c55b0 : decide (t286 < 0) = false := decide_eq_false c55
          clear c55
          by_cases c58 : t286 = t284
          ·rw [if_pos c58] at H
           have c58b0 : (t286 == t284) = true := beq_iff_eq.mpr c58
           have c58b1 : (t286 != t284) = false := bne_eq_false_iff_eq.mpr c58
           clear c58
           replace H := Option.bind_eq_some_iff.mp H
           obtain ⟨⟨t287, t288⟩, A590, H⟩ := H
           replace H : ((impl_FortsOf.f kj36 t287 t288).bind fun bt291 => ((laws_eqIntSS.f kj36 bt291.1 t262).bind fun t295 => (if t295 = true then (laws_FnExactFortsOf.j2 kj36 t285 t284 (bt291.2 != t265)) else (laws_FnExactFortsOf.j2 kj36 t285 t284 true)))) = some r := H
           have A59 := Aside0.mk A590
           clear A590
           replace H := Option.bind_eq_some_iff.mp H
           obtain ⟨⟨t291, t294⟩, A600, H⟩ := H
           replace H : ((laws_eqIntSS.f kj36 t291 t262).bind fun t295 => (if t295 = true then (laws_FnExactFortsOf.j2 kj36 t285 t284 (t294 != t265)) else (laws_FnExactFortsOf.j2 kj36 t285 t284 true))) = some r := H
           have A60 := Aside0.mk A600
           clear A600
           have HC61 := Aside0.mk H
           clear H
           obtain ⟨Ao62, co62, eo62⟩ := Kd.S_slice HO_7.out
           subst eo62
           go_upto_region 25 with (first | ((with_reducible refine gate_callee (f := 22) rfl ?_);refine goesL_ (some 64) rfl rfl Try.func22 (by kernel_rfl) rfl #[.slice Ao62 t271.length co62, .int .i64 1] rfl mM ?_;(with_reducible refine (laws_markIntSS.calls kj36 ?P9a1 (.slice Ao62 t271.length co62) t271 1 t284 t285 w _ ?side1 ?side2 A53.out).mono ?_);(case side1 => exact bB);(case side2 => exact mine9 HO_7.out);rintro e w63 ⟨rfl, hy0, hb, hkp⟩;refine ⟨_, rfl, ?_⟩;have n0_ := Aside0.mk (Kd.N_mono (ok' := fun k_ => ¬ P9_ k_) (Kd.N_keptB HO_4.out hkp (fun k_ hk_ hs_ => hk_ hs_.1)) (fun k_ hk_ => hk_.1));have n1_ := Aside0.mk (Kd.S_mono (ok' := fun k_ => True) hy0 (fun _ _ => trivial));have n2_ := Aside0.mk (Kd.R_mono (ok' := fun k_ => True) (Kd.R_keptB (mine9_R HO_271001.out (by decide)) hkp (fun k_ hk_ hs_ => hk_ hs_)) (fun k_ hk_ => trivial));have n3_ := Aside0.mk (blk_kept (by exact kP BK256.out) hkp (fun hs_ => mine9_block hs_ BK256.out (by decide)));have n4_ := Aside0.mk (blk_kept (by exact kP BK270.out) hkp (fun hs_ => mine9_block hs_ BK270.out (by decide)));have n5_ := Aside0.mk (hb);clear HO_4;clear HO_7;clear HO_271001;clear BK256;clear BK270;clear HB;have HO_4 := n0_;have HO_7 := n1_;have HO_271001 := n2_;have BK256 := n3_;have BK270 := n4_;have HB := n5_;clear n0_ n1_ n2_ n3_ n4_ n5_;(try clear hb);(try clear hkp);(try clear hy0)) | ((with_reducible refine gate_callee (f := 23) rfl ?_);refine goesL_ (some 67) rfl rfl Try.func23 (by kernel_rfl) rfl #[.slice Ao62 t285.length co62, .int .i64 1] rfl (by (try simp only [List.map_toArray, List.map_cons, List.map_nil]);first | done | (rw [show t285.length = t271.length from (Kd.S_reads' HO_7.out).1.symm] <;> rfl) | rfl | (simp only [List.length_drop, List.length_take];rfl)) ?_;(with_reducible refine (laws_heldIntSS.calls kj36 _ _ t285 1 t286 _ ?side1 ?side2 A54.out).mono ?_);(case side1 => exact cP (Kd.S_reads' HO_7.out).2.2);(case side2 => rw [show t285.length = t271.length from (Kd.S_reads' HO_7.out).1.symm];exact (Kd.S_reads' HO_7.out).2.1);rintro e w' ⟨rfl, ⟨nd, rfl⟩⟩;refine ⟨_, rfl, ?_⟩;have hnb64 := NB256_270.out;have hnc64 := NB270_256.out;have hcz65_0 : w63.cell? ⟨gb256, 0, none⟩ = some (.int .i64 a0_0) := (blk_cell BK256.out 0).trans rfl;have hcz65_1 : w63.cell? ⟨gb256, 1, none⟩ = some (.slice A0_1 l0_1.length c0_1) := (blk_cell BK256.out 1).trans rfl;have hfz65_0 := blk_frozen BK256.out 0;have hfz65_1 := blk_frozen BK256.out 1) | ((with_reducible refine gate_callee (f := 11) rfl ?_);refine goesL_ (some 75) rfl rfl Try.func11 (by kernel_rfl) rfl #[.agg #[.int .i64 a0_0, .slice A0_1 l0_1.length c0_1]] rfl mM ?_;(with_reducible refine (laws_toGraph.calls kj36 a0_0 _ _ l0_1 t287 t288 _ ?side1 ?side2 A59.out).mono ?_);(case side1 => exact cP (Kd.C_below HR0_1.out (by repeat (first | (with_reducible first | exact HB.out | apply below_alloc | apply pw_below_drewN | apply below_drew1 | refine below_set ?_ GE256.out | refine below_set ?_ GE270.out) | exact HB.out))));(case side2 => exact HC0_1.out);rintro e w66 ⟨v289, rfl, ho0, hb⟩;refine ⟨_, rfl, ?_⟩;have n0_ := Aside0.mk (Kd.N_below (by (with_reducible repeat (first | apply Kd.R_alloc | apply Kd.S_alloc | apply Kd.N_alloc | apply Kd.R_drewN | apply Kd.S_drewN | apply Kd.N_drewN | apply Kd.R_drew | apply Kd.S_drew | apply Kd.N_drew));exact HO_4.out) hb);have n1_ := Aside0.mk (Kd.S_below (by (with_reducible repeat (first | apply Kd.R_alloc | apply Kd.S_alloc | apply Kd.N_alloc | apply Kd.R_drewN | apply Kd.S_drewN | apply Kd.N_drewN | apply Kd.R_drew | apply Kd.S_drew | apply Kd.N_drew));exact HO_7.out) hb);have n2_ := Aside0.mk (Kd.R_elder' (by (with_reducible repeat (first | apply Kd.R_alloc | apply Kd.S_alloc | apply Kd.N_alloc | apply Kd.R_drewN | apply Kd.S_drewN | apply Kd.N_drewN | apply Kd.R_drew | apply Kd.S_drew | apply Kd.N_drew));exact HO_271001.out) (Kd.R_base ho0) hb);have n3_ := Aside0.mk (Kd.R_lower (Kd.R_new' ho0 (Kd.R_lt (by (with_reducible repeat (first | apply Kd.R_alloc | apply Kd.S_alloc | apply Kd.N_alloc | apply Kd.R_drewN | apply Kd.S_drewN | apply Kd.N_drewN | apply Kd.R_drew | apply Kd.S_drew | apply Kd.N_drew));exact HO_271001.out))) (below_size (by exact bB)));have n4_ := Aside0.mk (blk_below (g := gb256) (o := .cells #[.int .i64 a0_0, .slice A0_1 l0_1.length c0_1] 24 (0, 0)) (by exact kP BK256.out) hb);have n5_ := Aside0.mk (blk_below (g := gb270) (o := .cells #[.int .i64 t266, .slice Ao24 t282.length co24] 29 (0, 0)) (by exact kP BK270.out) hb);have n6_ := Aside0.mk (below_step (by exact bB) hb);clear HO_4;clear HO_7;clear HO_271001;clear BK256;clear BK270;clear HB;have HO_4 := n0_;have HO_7 := n1_;have HO_271001 := n2_;have HO290 := n3_;have BK256 := n4_;have BK270 := n5_;have HB := n6_;clear n0_ n1_ n2_ n3_ n4_ n5_ n6_;(try clear hb);(try clear hb2);(try clear hk);(try clear hi);(try clear ho0);obtain ⟨Ao67, co67, eo67⟩ := Kd.R_slice HO290.out;subst eo67) | ((with_reducible refine gate_callee (f := 31) rfl ?_);refine goesL_ (some 76) rfl rfl Try.func31 (by kernel_rfl) rfl #[.agg #[.int .i64 t287, .slice Ao67 t288.length co67]] rfl mM ?_;(with_reducible refine (impl_FortsOf.calls kj36 t287 _ _ t288 t291 t294 _ ?side1 ?side2 A60.out).mono ?_);(case side1 => exact cP (Kd.R_reads' HO290.out).2.2);(case side2 => exact (Kd.R_reads' HO290.out).2.1);rintro e w68 ⟨v292, rfl, ho0, hb⟩;refine ⟨_, rfl, ?_⟩;have n0_ := Aside0.mk (Kd.N_elder' (by (with_reducible repeat (first | apply Kd.R_alloc | apply Kd.S_alloc | apply Kd.N_alloc | apply Kd.R_drewN | apply Kd.S_drewN | apply Kd.N_drewN | apply Kd.R_drew | apply Kd.S_drew | apply Kd.N_drew));exact HO_4.out) (Kd.S_base ho0) hb);have n1_ := Aside0.mk (Kd.S_elder' (by (with_reducible repeat (first | apply Kd.R_alloc | apply Kd.S_alloc | apply Kd.N_alloc | apply Kd.R_drewN | apply Kd.S_drewN | apply Kd.N_drewN | apply Kd.R_drew | apply Kd.S_drew | apply Kd.N_drew));exact HO_7.out) (Kd.S_base ho0) hb);have n2_ := Aside0.mk (Kd.R_below (by (with_reducible repeat (first | apply Kd.R_alloc | apply Kd.S_alloc | apply Kd.N_alloc | apply Kd.R_drewN | apply Kd.S_drewN | apply Kd.N_drewN | apply Kd.R_drew | apply Kd.S_drew | apply Kd.N_drew));exact HO_271001.out) hb);have n3_ := Aside0.mk (Kd.R_below (by (with_reducible repeat (first | apply Kd.R_alloc | apply Kd.S_alloc | apply Kd.N_alloc | apply Kd.R_drewN | apply Kd.S_drewN | apply Kd.N_drewN | apply Kd.R_drew | apply Kd.S_drew | apply Kd.N_drew));exact HO290.out) hb);have n4_ := Aside0.mk (Kd.S_lower (Kd.S_new' (Kd.S_new' ho0 (Kd.N_lt (by (with_reducible repeat (first | apply Kd.R_alloc | apply Kd.S_alloc | apply Kd.N_alloc | apply Kd.R_drewN | apply Kd.S_drewN | apply Kd.N_drewN | apply Kd.R_drew | apply Kd.S_drew | apply Kd.N_drew));exact HO_4.out))) (Kd.S_lt (by (with_reducible repeat (first | apply Kd.R_alloc | apply Kd.S_alloc | apply Kd.N_alloc | apply Kd.R_drewN | apply Kd.S_drewN | apply Kd.N_drewN | apply Kd.R_drew | apply Kd.S_drew | apply Kd.N_drew));exact HO_7.out))) (below_size (by exact bB)));have n5_ := Aside0.mk (blk_below (g := gb256) (o := .cells #[.int .i64 a0_0, .slice A0_1 l0_1.length c0_1] 24 (0, 0)) (by exact kP BK256.out) hb);have n6_ := Aside0.mk (blk_below (g := gb270) (o := .cells #[.int .i64 t266, .slice Ao24 t282.length co24] 29 (0, 0)) (by exact kP BK270.out) hb);have n7_ := Aside0.mk (below_step (by exact bB) hb);clear HO_4;clear HO_7;clear HO_271001;clear HO290;clear BK256;clear BK270;clear HB;have HO_4 := n0_;have HO_7 := n1_;have HO_271001 := n2_;have HO290 := n3_;have HO293 := n4_;have BK256 := n5_;have BK270 := n6_;have HB := n7_;clear n0_ n1_ n2_ n3_ n4_ n5_ n6_ n7_;(try clear hb);(try clear hb2);(try clear hk);(try clear hi);(try clear ho0)))
           (try simp only [Act.put, List.setIfInBounds_toArray, List.set_cons_zero, List.set_cons_succ])
           go_cut [87] (fun v87 wc => ∃ (kq : Nat) (x87_60 : Bool), v87 = .bool x87_60 ∧ Aside0 (laws_FnExactFortsOf.j2 kq t285 t284 x87_60 = some r) ∧ Aside0 (kq ≤ kj36) ∧ Aside0 (Kd.S (Kd.slice 3 (Kd.int .i64)) 25 wc w.heap.size (fun k_ => True) (.slice Ao62 t271.length co62) t285) ∧ Aside0 (Kd.R k80 80 wc w.heap.size (fun _ => True) (.slice Ao24 t282.length co24) t282) ∧ Aside0 (wc.heap[gb256]? = some (.cells #[.int .i64 a0_0, (.slice A0_1 l0_1.length c0_1)] 24 (0, 0))) ∧ Aside0 (wc.heap[gb270]? = some (.cells #[.int .i64 t266, (.slice Ao24 t282.length co24)] 29 (0, 0))) ∧ Aside0 (Below w.heap.size w wc))
           case first =>
            have H := HC61.out
            clear HC61
            replace H := Option.bind_eq_some_iff.mp H
            obtain ⟨t295, A690, H⟩ := H
            replace H : (if t295 = true then (laws_FnExactFortsOf.j2 kj36 t285 t284 (t294 != t265)) else (laws_FnExactFortsOf.j2 kj36 t285 t284 true)) = some r := H
            have A69 := Aside0.mk A690
            clear A690
            by_cases c70 : t295 = true
            ·subst c70
             have H1 : (laws_FnExactFortsOf.j2 kj36 t285 t284 (t294 != t265)) = some r := by rw [if_pos rfl] at H;exact H
             clear H
             have H := H1
             clear H1
             have H' := Aside0.mk H
             clear H
             obtain ⟨Ao71, co71, eo71⟩ := Kd.S_slice HO293.out
             subst eo71
             obtain ⟨Ao72, co72, eo72⟩ := Kd.N_slice HO_4.out
             subst eo72
             go_wp2_with (first | ((with_reducible refine gate_callee (f := 20) rfl ?_);refine goesL_ (some 81) rfl rfl Try.func20 (by kernel_rfl) rfl #[.slice Ao71 t291.length co71, .slice Ao72 t262.length co72] rfl mM ?_;(with_reducible refine (laws_eqIntSS.calls kj36 _ _ t291 _ _ t262 true _ ?side1 ?side2 ?side3 ?side4 A69.out).mono ?_);(case side1 => exact cP (Kd.S_reads' HO293.out).2.2);(case side2 => exact (Kd.S_reads' HO293.out).2.1);(case side3 => exact cP (Kd.N_reads' HO_4.out).2.2);(case side4 => exact (Kd.N_reads' HO_4.out).2.1);rintro e w' ⟨rfl, ⟨nd, rfl⟩⟩;refine ⟨_, rfl, ?_⟩))
             go_meet
             case rel => exact ⟨_, ((t294 != t265)), (by first | rfl | (simp;done) | (simp [*];done)), H', ⟨by have := HJ10.out;have := HJ36.out;first | omega | exact Nat.le_refl _⟩, ⟨by (try simp only [hl271001_36]);(with_reducible repeat (first | apply Kd.R_alloc | apply Kd.S_alloc | apply Kd.N_alloc | apply Kd.R_drewN | apply Kd.S_drewN | apply Kd.N_drewN | apply Kd.R_drew | apply Kd.S_drew | apply Kd.N_drew));exact Kd.S_mono HO_7.out (fun _ hk => by first | exact hk | exact hk.2 | exact hk.1 | exact hk.2.1 | exact ⟨hk.1, hk.2.1⟩ | trivial)⟩, ⟨by (try simp only [hl271001_36]);(with_reducible repeat (first | apply Kd.R_alloc | apply Kd.S_alloc | apply Kd.N_alloc | apply Kd.R_drewN | apply Kd.S_drewN | apply Kd.N_drewN | apply Kd.R_drew | apply Kd.S_drew | apply Kd.N_drew));exact Kd.R_mono HO_271001.out (fun _ hk => trivial)⟩, ⟨by (try simp only [hl271001_36]);exact kP BK256.out⟩, ⟨by (try simp only [hl271001_36]);exact kP BK270.out⟩, ⟨by exact bB⟩⟩
            ·replace c70 := Bool.eq_false_iff.mpr c70
             subst c70
             have H1 : (laws_FnExactFortsOf.j2 kj36 t285 t284 true) = some r := by rw [if_neg (show ¬ (false = true) by decide)] at H;exact H
             clear H
             have H := H1
             clear H1
             have H' := Aside0.mk H
             clear H
             obtain ⟨Ao73, co73, eo73⟩ := Kd.S_slice HO293.out
             subst eo73
             obtain ⟨Ao74, co74, eo74⟩ := Kd.N_slice HO_4.out
             subst eo74
             go_wp2_with (first | ((with_reducible refine gate_callee (f := 20) rfl ?_);refine goesL_ (some 81) rfl rfl Try.func20 (by kernel_rfl) rfl #[.slice Ao73 t291.length co73, .slice Ao74 t262.length co74] rfl mM ?_;(with_reducible refine (laws_eqIntSS.calls kj36 _ _ t291 _ _ t262 false _ ?side1 ?side2 ?side3 ?side4 A69.out).mono ?_);(case side1 => exact cP (Kd.S_reads' HO293.out).2.2);(case side2 => exact (Kd.S_reads' HO293.out).2.1);(case side3 => exact cP (Kd.N_reads' HO_4.out).2.2);(case side4 => exact (Kd.N_reads' HO_4.out).2.1);rintro e w' ⟨rfl, ⟨nd, rfl⟩⟩;refine ⟨_, rfl, ?_⟩))
             go_meet
             case rel => exact ⟨_, (true), (by first | rfl | (simp;done) | (simp [*];done)), H', ⟨by have := HJ10.out;have := HJ36.out;first | omega | exact Nat.le_refl _⟩, ⟨by (try simp only [hl271001_36]);(with_reducible repeat (first | apply Kd.R_alloc | apply Kd.S_alloc | apply Kd.N_alloc | apply Kd.R_drewN | apply Kd.S_drewN | apply Kd.N_drewN | apply Kd.R_drew | apply Kd.S_drew | apply Kd.N_drew));exact Kd.S_mono HO_7.out (fun _ hk => by first | exact hk | exact hk.2 | exact hk.1 | exact hk.2.1 | exact ⟨hk.1, hk.2.1⟩ | trivial)⟩, ⟨by (try simp only [hl271001_36]);(with_reducible repeat (first | apply Kd.R_alloc | apply Kd.S_alloc | apply Kd.N_alloc | apply Kd.R_drewN | apply Kd.S_drewN | apply Kd.N_drewN | apply Kd.R_drew | apply Kd.S_drew | apply Kd.N_drew));exact Kd.R_mono HO_271001.out (fun _ hk => trivial)⟩, ⟨by (try simp only [hl271001_36]);exact kP BK256.out⟩, ⟨by (try simp only [hl271001_36]);exact kP BK270.out⟩, ⟨by exact bB⟩⟩
           case rest =>
            clear HC61
            try clear c1
            try clear c2
            try clear p2
            try clear c3
            try clear c3b0
            try clear c4
            try clear c5
            try clear c6
            try clear c7
            try clear c8
            try clear c9
            try clear c11
            try clear c14
            try clear c20
            try clear c21
            try clear c22
            try clear c23
            try clear c27
            try clear c30
            try clear c31
            try clear c32
            try clear c35
            try clear c42
            try clear c45
            try clear c45b0
            try clear c47
            try clear c52
            try clear c55
            try clear c55b0
            try clear c58
            try clear c58b0
            try clear c58b1
            try clear c64
            try clear c70
            try clear hcz13_0
            try clear hcz13_1
            try clear hcz15_0
            try clear hcz15_1
            try clear hcz19_0
            try clear hcz19_1
            try clear hcz23_0
            try clear hcz23_1
            try clear hcz43_0
            try clear hcz43_1
            try clear hcz5_0
            try clear hcz5_1
            try clear hcz65_0
            try clear hcz65_1
            try clear hfz13_0
            try clear hfz13_1
            try clear hfz15_0
            try clear hfz15_1
            try clear hfz19_0
            try clear hfz19_1
            try clear hfz23_0
            try clear hfz23_1
            try clear hfz43_0
            try clear hfz43_1
            try clear hfz5_0
            try clear hfz5_1
            try clear hfz65_0
            try clear hfz65_1
            try clear p2
            obtain ⟨kq, x87_60, rfl, HA, HJ60, HO_7, HO_271001, BK256, BK270, HB⟩ := hcut
            have hl7_60 := (Kd.S_reads' HO_7.out).1
            rw [hl7_60] at HO_7
            (try simp only [hl7_60])
            (try simp only [hl7_60] at BK256)
            (try simp only [hl7_60] at BK270)
            (try simp only [hl7_60] at HO_271001)
            cases kq with
            | zero => exact absurd HA.out (by simp [laws_FnExactFortsOf.j2])
            | succ kj60 =>
             have H := HA.out
             clear HA
             simp only [laws_FnExactFortsOf.j2] at H
             by_cases c75 : x87_60 = true
             ·subst c75
              have H1 : (some false) = some r := by rw [if_pos rfl] at H;exact H
              clear H
              have H := H1
              clear H1
              obtain rfl := Option.some.inj H
              go_wp2
              go_ret
              exact ⟨by first | rfl | (simp [errW_none, errW_some] <;> rfl) | (simp [*, errW_none, errW_some] <;> rfl), by exact bB⟩
             ·replace c75 := Bool.eq_false_iff.mpr c75
              subst c75
              have H1 : ((laws_heldIntSS.f kj60 t285 1).bind fun t296 => (if t296 < 0 then (some false) else (if t296 = t284 then (some true) else (some false)))) = some r := by rw [if_neg (show ¬ (false = true) by decide)] at H;exact H
              clear H
              have H := H1
              clear H1
              replace H := Option.bind_eq_some_iff.mp H
              obtain ⟨t296, A760, H⟩ := H
              replace H : (if t296 < 0 then (some false) else (if t296 = t284 then (some true) else (some false))) = some r := H
              have A76 := Aside0.mk A760
              clear A760
              by_cases c77 : t296 < 0
              ·rw [if_pos c77] at H
               have c77b0 : decide (t296 < 0) = true := decide_eq_true c77
               clear c77
               obtain rfl := Option.some.inj H
               go_wp2_with (first | ((with_reducible refine gate_callee (f := 23) rfl ?_);refine goesL_ (some 90) rfl rfl Try.func23 (by kernel_rfl) rfl #[.slice Ao62 t285.length co62, .int .i64 1] rfl mM ?_;(with_reducible refine (laws_heldIntSS.calls kj60 _ _ t285 1 t296 _ ?side1 ?side2 A76.out).mono ?_);(case side1 => exact cP (Kd.S_reads' HO_7.out).2.2);(case side2 => exact (Kd.S_reads' HO_7.out).2.1);rintro e w' ⟨rfl, ⟨nd, rfl⟩⟩;refine ⟨_, rfl, ?_⟩))
               go_ret
               exact ⟨by first | rfl | (simp [errW_none, errW_some] <;> rfl) | (simp [*, errW_none, errW_some] <;> rfl), by exact bB⟩
              ·rw [if_neg c77] at H
               have c77b0 : decide (t296 < 0) = false := decide_eq_false c77
               clear c77
               by_cases c78 : t296 = t284
               ·rw [if_pos c78] at H
                have c78b0 : (t296 == t284) = true := beq_iff_eq.mpr c78
                have c78b1 : (t296 != t284) = false := bne_eq_false_iff_eq.mpr c78
                clear c78
                obtain rfl := Option.some.inj H
                go_wp2_with (first | ((with_reducible refine gate_callee (f := 23) rfl ?_);refine goesL_ (some 90) rfl rfl Try.func23 (by kernel_rfl) rfl #[.slice Ao62 t285.length co62, .int .i64 1] rfl mM ?_;(with_reducible refine (laws_heldIntSS.calls kj60 _ _ t285 1 t296 _ ?side1 ?side2 A76.out).mono ?_);(case side1 => exact cP (Kd.S_reads' HO_7.out).2.2);(case side2 => exact (Kd.S_reads' HO_7.out).2.1);rintro e w' ⟨rfl, ⟨nd, rfl⟩⟩;refine ⟨_, rfl, ?_⟩))
                go_ret
                exact ⟨by first | rfl | (simp [errW_none, errW_some] <;> rfl) | (simp [*, errW_none, errW_some] <;> rfl), by exact bB⟩
               ·rw [if_neg c78] at H
                have c78b0 : (t296 == t284) = false := beq_eq_false_iff_ne.mpr c78
                have c78b1 : (t296 != t284) = true := bne_iff_ne.mpr c78
                obtain rfl := Option.some.inj H
                go_wp2_with (first | ((with_reducible refine gate_callee (f := 23) rfl ?_);refine goesL_ (some 90) rfl rfl Try.func23 (by kernel_rfl) rfl #[.slice Ao62 t285.length co62, .int .i64 1] rfl mM ?_;(with_reducible refine (laws_heldIntSS.calls kj60 _ _ t285 1 t296 _ ?side1 ?side2 A76.out).mono ?_);(case side1 => exact cP (Kd.S_reads' HO_7.out).2.2);(case side2 => exact (Kd.S_reads' HO_7.out).2.1);rintro e w' ⟨rfl, ⟨nd, rfl⟩⟩;refine ⟨_, rfl, ?_⟩))
                go_ret
                exact ⟨by first | rfl | (simp [errW_none, errW_some] <;> rfl) | (simp [*, errW_none, errW_some] <;> rfl), by exact bB⟩
          ·rw [if_neg c58] at H
           have c58b0 : (t286 == t284) = false := beq_eq_false_iff_ne.mpr c58
           have c58b1 : (t286 != t284) = true := bne_iff_ne.mpr c58
           obtain rfl := Option.some.inj H
           obtain ⟨Ao79, co79, eo79⟩ := Kd.S_slice HO_7.out
           subst eo79
           go_wp2_with (first | ((with_reducible refine gate_callee (f := 22) rfl ?_);refine goesL_ (some 64) rfl rfl Try.func22 (by kernel_rfl) rfl #[.slice Ao79 t271.length co79, .int .i64 1] rfl mM ?_;(with_reducible refine (laws_markIntSS.calls kj36 ?P9a2 (.slice Ao79 t271.length co79) t271 1 t284 t285 w _ ?side1 ?side2 A53.out).mono ?_);(case side1 => exact bB);(case side2 => exact mine9 HO_7.out);rintro e w80 ⟨rfl, hy0, hb, hkp⟩;refine ⟨_, rfl, ?_⟩;have n0_ := Aside0.mk (Kd.N_mono (ok' := fun k_ => ¬ P9_ k_) (Kd.N_keptB HO_4.out hkp (fun k_ hk_ hs_ => hk_ hs_.1)) (fun k_ hk_ => hk_.1));have n1_ := Aside0.mk (Kd.S_mono (ok' := fun k_ => True) hy0 (fun _ _ => trivial));have n2_ := Aside0.mk (Kd.R_mono (ok' := fun k_ => True) (Kd.R_keptB (mine9_R HO_271001.out (by decide)) hkp (fun k_ hk_ hs_ => hk_ hs_)) (fun k_ hk_ => trivial));have n3_ := Aside0.mk (blk_kept (by exact kP BK256.out) hkp (fun hs_ => mine9_block hs_ BK256.out (by decide)));have n4_ := Aside0.mk (blk_kept (by exact kP BK270.out) hkp (fun hs_ => mine9_block hs_ BK270.out (by decide)));have n5_ := Aside0.mk (hb);clear HO_4;clear HO_7;clear HO_271001;clear BK256;clear BK270;clear HB;have HO_4 := n0_;have HO_7 := n1_;have HO_271001 := n2_;have BK256 := n3_;have BK270 := n4_;have HB := n5_;clear n0_ n1_ n2_ n3_ n4_ n5_;(try clear hb);(try clear hkp);(try clear hy0)) | ((with_reducible refine gate_callee (f := 23) rfl ?_);refine goesL_ (some 67) rfl rfl Try.func23 (by kernel_rfl) rfl #[.slice Ao79 t285.length co79, .int .i64 1] rfl (by (try simp only [List.map_toArray, List.map_cons, List.map_nil]);first | done | (rw [show t285.length = t271.length from (Kd.S_reads' HO_7.out).1.symm] <;> rfl) | rfl | (simp only [List.length_drop, List.length_take];rfl)) ?_;(with_reducible refine (laws_heldIntSS.calls kj36 _ _ t285 1 t286 _ ?side1 ?side2 A54.out).mono ?_);(case side1 => exact cP (Kd.S_reads' HO_7.out).2.2);(case side2 => rw [show t285.length = t271.length from (Kd.S_reads' HO_7.out).1.symm];exact (Kd.S_reads' HO_7.out).2.1);rintro e w' ⟨rfl, ⟨nd, rfl⟩⟩;refine ⟨_, rfl, ?_⟩))
           go_ret
           exact ⟨by first | rfl | (simp [errW_none, errW_some] <;> rfl) | (simp [*, errW_none, errW_some] <;> rfl), by exact bB⟩
     ·replace c35 := Bool.eq_false_iff.mpr c35
      subst c35
      have H1 : (some false) = some r := by rw [if_neg (show ¬ (false = true) by decide)] at H;exact H
      clear H
      have H := H1
      clear H1
      obtain rfl := Option.some.inj H
      try go_wp2
      have n0_ := Aside0.mk (Kd.N_drew HO_4.out)
      have n1_ := Aside0.mk (Kd.S_drew HO_7.out)
      have n2_ := Aside0.mk (Kd.R_drew HO_271001.out)
      have n3_ := Aside0.mk (blk_drew BK256.out)
      have n4_ := Aside0.mk (blk_drew BK270.out)
      have n5_ := Aside0.mk (below_drew1 HB.out)
      clear HO_4
      clear HO_7
      clear HO_271001
      clear BK256
      clear BK270
      clear HB
      have HO_4 := n0_
      have HO_7 := n1_
      have HO_271001 := n2_
      have BK256 := n3_
      have BK270 := n4_
      have HB := n5_
      clear n0_ n1_ n2_ n3_ n4_ n5_
      refine start_ (n := 5) (S := fun w' => w'.cell? ⟨gb270, 0, none⟩ = some (.int .i64 t266) ∧ w'.cell? ⟨gb270, 1, none⟩ = some (.slice Ao24 t267.length co24) ∧ w'.cell? ⟨gb256, 0, none⟩ = some (.int .i64 a0_0) ∧ w'.cell? ⟨gb256, 1, none⟩ = some (.slice A0_1 l0_1.length c0_1)) (ds := []) #[false,false,false,false,false] (by kernel_rfl) rfl rfl ⟨(blk_cell BK270.out 0).trans rfl, (blk_cell BK270.out 1).trans rfl, (blk_cell BK256.out 0).trans rfl, (blk_cell BK256.out 1).trans rfl⟩ (fun hHeld => ?_)
      generalize wc.drew = w81 at HO_4 HO_7 HO_271001 BK256 BK270 HB hHeld ⊢
      refine take_ (i := 0) (N := some 41) (v := ?_) (a' := ?_) #[true,false,false,false,false] rfl rfl (by kernel_rfl) (fun _ _ _ h => h) (Or.inl ⟨by rfl, ?_⟩) hHeld ?_ ?_
      rotate_left
      ·rintro w' ⟨s0, s1, s2, s3⟩
       go_simp
       with_reducible rfl
      rotate_left
      ·simp only [Act.put, List.setIfInBounds_toArray, List.set_cons_zero, List.set_cons_succ, i64_w, i32_w]
       rfl
      refine take_ (i := 1) (N := some 42) (v := ?_) (a' := ?_) #[true,true,false,false,false] rfl rfl (by kernel_rfl) (fun _ _ _ h => h) (Or.inl ⟨by rfl, ?_⟩) hHeld ?_ ?_
      rotate_left
      ·rintro w' ⟨s0, s1, s2, s3⟩
       go_simp
       with_reducible rfl
      rotate_left
      ·simp only [Act.put, List.setIfInBounds_toArray, List.set_cons_zero, List.set_cons_succ, i64_w, i32_w]
       rfl
      refine one_ (i := 2) (N := some 43) #[true,true,true,false,false] rfl rfl (by kernel_rfl) (by decide) (fun K hK => ?_)
      refine goes_ Try.func11 (by kernel_rfl) rfl #[.agg #[.int .i64 a0_0, .slice A0_1 l0_1.length c0_1]] (by rfl) rfl rfl mM ?_
      with_reducible refine (laws_toGraph.calls kj10 a0_0 _ _ l0_1 t276 t277 _ ?side1 ?side2 A33.out).mono ?_
      (case side1 => exact cP (Kd.C_below HR0_1.out HB.out))
      (case side2 => exact HC0_1.out)
      rintro e w82 ⟨v278, rfl, ho0, hb⟩
      refine ⟨_, rfl, ?_⟩
      have n0_ := Aside0.mk (Kd.N_below (by (with_reducible repeat (first | apply Kd.R_alloc | apply Kd.S_alloc | apply Kd.N_alloc | apply Kd.R_drewN | apply Kd.S_drewN | apply Kd.N_drewN | apply Kd.R_drew | apply Kd.S_drew | apply Kd.N_drew));exact HO_4.out) hb)
      have n1_ := Aside0.mk (Kd.S_below (by (with_reducible repeat (first | apply Kd.R_alloc | apply Kd.S_alloc | apply Kd.N_alloc | apply Kd.R_drewN | apply Kd.S_drewN | apply Kd.N_drewN | apply Kd.R_drew | apply Kd.S_drew | apply Kd.N_drew));exact HO_7.out) hb)
      have n2_ := Aside0.mk (Kd.R_elder' (by (with_reducible repeat (first | apply Kd.R_alloc | apply Kd.S_alloc | apply Kd.N_alloc | apply Kd.R_drewN | apply Kd.S_drewN | apply Kd.N_drewN | apply Kd.R_drew | apply Kd.S_drew | apply Kd.N_drew));exact HO_271001.out) (Kd.R_base ho0) hb)
      have n3_ := Aside0.mk (Kd.R_lower (Kd.R_new' ho0 (Kd.R_lt (by (with_reducible repeat (first | apply Kd.R_alloc | apply Kd.S_alloc | apply Kd.N_alloc | apply Kd.R_drewN | apply Kd.S_drewN | apply Kd.N_drewN | apply Kd.R_drew | apply Kd.S_drew | apply Kd.N_drew));exact HO_271001.out))) (below_size (by exact bB)))
      have n4_ := Aside0.mk (blk_below (g := gb256) (o := .cells #[.int .i64 a0_0, .slice A0_1 l0_1.length c0_1] 24 (0, 0)) (by exact kP BK256.out) hb)
      have n5_ := Aside0.mk (blk_below (g := gb270) (o := .cells #[.int .i64 t266, .slice Ao24 t267.length co24] 29 (0, 0)) (by exact kP BK270.out) hb)
      have n6_ := Aside0.mk (below_step (by exact bB) hb)
      clear HO_4
      clear HO_7
      clear HO_271001
      clear BK256
      clear BK270
      clear HB
      have HO_4 := n0_
      have HO_7 := n1_
      have HO_271001 := n2_
      have HO279 := n3_
      have BK256 := n4_
      have BK270 := n5_
      have HB := n6_
      clear n0_ n1_ n2_ n3_ n4_ n5_ n6_
      (try clear hb)
      (try clear hb2)
      (try clear hk)
      (try clear hi)
      (try clear ho0)
      obtain ⟨Ao83, co83, eo83⟩ := Kd.R_slice HO279.out
      (first | subst eo83 | (injection eo83 with f1_ f2_ f3_;have f4_ := f1_.symm;have f5_ := f3_.symm;clear f1_ f2_ f3_;subst f4_;subst f5_))
      refine hK.out _ _ ⟨(blk_cell BK270.out 0).trans rfl, (blk_cell BK270.out 1).trans rfl, (blk_cell BK256.out 0).trans rfl, (blk_cell BK256.out 1).trans rfl⟩ (fun hHeld => ?_)
      clear hK K
      refine norm_ (a' := ?_) ?_ ?_
      rotate_left
      ·show Act.put _ (some 43) _ = _
       simp only [Act.put, List.setIfInBounds_toArray, List.set_cons_zero, List.set_cons_succ, i64_w, i32_w]
       rfl
      refine one_ (i := 3) (N := some 44) #[true,true,true,true,false] rfl rfl (by kernel_rfl) (by decide) (fun K hK => ?_)
      refine goes_ Try.func14 (by kernel_rfl) rfl #[.agg #[.int .i64 t266, .slice Ao24 t267.length co24], .agg #[.int .i64 t276, .slice Ao83 t277.length co83]] (by rfl) rfl rfl mM ?_
      with_reducible refine (laws_eqGraph.calls kj10 t266 _ _ t267 t276 _ _ t277 false _ ?side1 ?side2 ?side3 ?side4 A34.out).mono ?_
      (case side1 => exact cP (Kd.R_reads' HO_271001.out).2.2)
      (case side2 => exact (Kd.R_reads' HO_271001.out).2.1)
      (case side3 => exact cP (Kd.R_reads' HO279.out).2.2)
      (case side4 => exact (Kd.R_reads' HO279.out).2.1)
      rintro e w84 ⟨rfl, hb⟩
      refine ⟨_, rfl, ?_⟩
      have n0_ := Aside0.mk (Kd.N_below (by (with_reducible repeat (first | apply Kd.R_alloc | apply Kd.S_alloc | apply Kd.N_alloc | apply Kd.R_drewN | apply Kd.S_drewN | apply Kd.N_drewN | apply Kd.R_drew | apply Kd.S_drew | apply Kd.N_drew));exact HO_4.out) hb)
      have n1_ := Aside0.mk (Kd.S_below (by (with_reducible repeat (first | apply Kd.R_alloc | apply Kd.S_alloc | apply Kd.N_alloc | apply Kd.R_drewN | apply Kd.S_drewN | apply Kd.N_drewN | apply Kd.R_drew | apply Kd.S_drew | apply Kd.N_drew));exact HO_7.out) hb)
      have n2_ := Aside0.mk (Kd.R_below (by (with_reducible repeat (first | apply Kd.R_alloc | apply Kd.S_alloc | apply Kd.N_alloc | apply Kd.R_drewN | apply Kd.S_drewN | apply Kd.N_drewN | apply Kd.R_drew | apply Kd.S_drew | apply Kd.N_drew));exact HO_271001.out) hb)
      have n3_ := Aside0.mk (Kd.R_below (by (with_reducible repeat (first | apply Kd.R_alloc | apply Kd.S_alloc | apply Kd.N_alloc | apply Kd.R_drewN | apply Kd.S_drewN | apply Kd.N_drewN | apply Kd.R_drew | apply Kd.S_drew | apply Kd.N_drew));exact HO279.out) hb)
      have n4_ := Aside0.mk (blk_below (g := gb256) (o := .cells #[.int .i64 a0_0, .slice A0_1 l0_1.length c0_1] 24 (0, 0)) (by exact kP BK256.out) hb)
      have n5_ := Aside0.mk (blk_below (g := gb270) (o := .cells #[.int .i64 t266, .slice Ao24 t267.length co24] 29 (0, 0)) (by exact kP BK270.out) hb)
      have n6_ := Aside0.mk (below_step (by exact bB) hb)
      clear HO_4
      clear HO_7
      clear HO_271001
      clear HO279
      clear BK256
      clear BK270
      clear HB
      have HO_4 := n0_
      have HO_7 := n1_
      have HO_271001 := n2_
      have HO279 := n3_
      have BK256 := n4_
      have BK270 := n5_
      have HB := n6_
      clear n0_ n1_ n2_ n3_ n4_ n5_ n6_
      (try clear hb)
      (try clear hb2)
      (try clear hk)
      (try clear hi)
      refine hK.out _ _ ⟨(blk_cell BK270.out 0).trans rfl, (blk_cell BK270.out 1).trans rfl, (blk_cell BK256.out 0).trans rfl, (blk_cell BK256.out 1).trans rfl⟩ (fun hHeld => ?_)
      clear hK K
      refine norm_ (a' := ?_) ?_ ?_
      rotate_left
      ·show Act.put _ (some 44) _ = _
       simp only [Act.put, List.setIfInBounds_toArray, List.set_cons_zero, List.set_cons_succ, i64_w, i32_w]
       rfl
      refine pure_ (i := 4) (N := some 45) (v := ?_) (a' := ?_) #[true,true,true,true,true] rfl rfl (by kernel_rfl) (fun _ _ _ h => h) (Or.inl ⟨by rfl, ?_⟩) ?_ ?_
      rotate_left
      ·intro w'
       go_simp
       with_reducible rfl
      rotate_left
      ·simp only [Act.put, List.setIfInBounds_toArray, List.set_cons_zero, List.set_cons_succ, i64_w, i32_w]
       rfl
      refine done_ (by kernel_rfl) ?_
      try go_wp2
      go_ret
      exact ⟨by first | rfl | (simp [errW_none, errW_some] <;> rfl) | (simp [*, errW_none, errW_some] <;> rfl), by exact bB⟩


end Go.Proofs.Ytaddgielnfhhpaa.QFortsOf
