import Derived.Test.YtaddgielnfhhpaaQNullityOf0
import Derived.Test.YtaddgielnfhhpaaQNullityOf4
import Derived.Test.YtaddgielnfhhpaaQNullityOf5
import Derived.Test.YtaddgielnfhhpaaQNullityOf8
import Derived.Test.YtaddgielnfhhpaaQNullityOf9
namespace Go.Proofs.Ytaddgielnfhhpaa.QNullityOf
open Go.RowKit Go.Proofs.YtaddgielnfhhpaaW.PrintWords Go.Proofs.YtaddgielnfhhpaaW.PrintLast Go.Proofs.YtaddgielnfhhpaaW.PrintMore
attribute [local go_sem] max2_int min2_int max_two min_two max_three min_three max_four min_four   -- for this text's walks alone
set_option linter.unusedVariables false
set_option linter.unusedSimpArgs false
/-! ### laws_FnExactNullityOf: function 3 -/
def laws_FnExactNullityOf.j0 : Nat → List Int → List Int → Bool → Int → List (S80) → Int → List (S80) → Option (Bool)
 | 0, _, _, _, _, _, _, _ => none
 | k + 1, x1, x9, x45, x209000, x209001, x224000, x224001 => if x45 = true then (some false) else ((laws_toGraph.f k x209000 x209001).bind fun bt229 => ((laws_eqGraph.f k x224000 x224001 bt229.1 bt229.2).bind fun t233 => (if t233 = true then ((laws_toIntS.f k x1).bind fun t234 => ((laws_eqIntS.f k x9 t234).bind fun t237 => (if t237 = true then (some true) else (some false)))) else (some false))))
def laws_FnExactNullityOf.f (k : Nat) (a0_0 : Int) (l0_1 : List (S80)) (l1 : List Int) : Option (Bool) := if (l1.length : Int) > 1048576 then (some true) else ((laws_szGraph.f a0_0 l0_1 1048576).bind fun t209 => (if t209 < 0 then (some true) else ((laws_toGraph.f k a0_0 l0_1).bind fun bt210 => ((laws_toIntS.f k l1).bind fun t214 => ((spec_NullityOf.f k bt210.1 bt210.2 t214).bind fun bt217 => ((laws_toGraph.f k a0_0 l0_1).bind fun bt219 => ((laws_toIntS.f k l1).bind fun t224 => ((impl_NullityOf.f k bt219.1 bt219.2 t224).bind fun bt227 => (if bt227.1 = bt217.1 then (laws_FnExactNullityOf.j0 k l1 t224 (bt227.2 != bt217.2) a0_0 l0_1 bt219.1 bt219.2) else (laws_FnExactNullityOf.j0 k l1 t224 true a0_0 l0_1 bt219.1 bt219.2))))))))))
theorem laws_FnExactNullityOf.mono_l : ∀ k, (∀ y0 y1 y2 y3 y4 y5 y6, LeO (laws_FnExactNullityOf.j0 k y0 y1 y2 y3 y4 y5 y6) (laws_FnExactNullityOf.j0 (k + 1) y0 y1 y2 y3 y4 y5 y6))
 | 0 => fun _ _ _ _ _ _ _ r h => by simp [laws_FnExactNullityOf.j0] at h
 | k + 1 => by
  have ih0 := laws_FnExactNullityOf.mono_l k
  ·intro y0 y1 y2 y3 y4 y5 y6
   unfold laws_FnExactNullityOf.j0
   repeat' first
   | (with_reducible exact ih0 _ _ _ _ _ _ _)
   | (with_reducible exact impl_NullityOf.mono _ _ _ _)
   | (with_reducible exact laws_eqGraph.mono _ _ _ _ _)
   | (with_reducible exact laws_eqIntS.mono _ _ _)
   | (with_reducible exact laws_toGraph.mono _ _ _)
   | (with_reducible exact laws_toIntS.mono _ _)
   | (with_reducible exact spec_NullityOf.mono _ _ _ _)
   | (with_reducible exact LeO.refl _)
   | (with_reducible exact LeO.none _)
   | (with_reducible refine LeO.ite ?_ ?_)
   | (with_reducible refine LeO.bind ?_ (fun _ => ?_))
   | exact ih0 _ _ _ _ _ _ _
   | exact impl_NullityOf.mono _ _ _ _
   | exact laws_eqGraph.mono _ _ _ _ _
   | exact laws_eqIntS.mono _ _ _
   | exact laws_toGraph.mono _ _ _
   | exact laws_toIntS.mono _ _
   | exact spec_NullityOf.mono _ _ _ _
   | exact LeO.none _
   | refine LeO.ite ?_ ?_
   | refine LeO.bind ?_ (fun _ => ?_)
theorem laws_FnExactNullityOf.mono : ∀ a0 a1 a2 k, LeO (laws_FnExactNullityOf.f k a0 a1 a2) (laws_FnExactNullityOf.f (k + 1) a0 a1 a2) := by
 intro a0 a1 a2 k
 have ih0 := laws_FnExactNullityOf.mono_l k
 unfold laws_FnExactNullityOf.f
 repeat' first
   | (with_reducible exact ih0 _ _ _ _ _ _ _)
   | (with_reducible exact impl_NullityOf.mono _ _ _ _)
   | (with_reducible exact laws_eqGraph.mono _ _ _ _ _)
   | (with_reducible exact laws_eqIntS.mono _ _ _)
   | (with_reducible exact laws_toGraph.mono _ _ _)
   | (with_reducible exact laws_toIntS.mono _ _)
   | (with_reducible exact spec_NullityOf.mono _ _ _ _)
   | (with_reducible exact LeO.refl _)
   | (with_reducible exact LeO.none _)
   | (with_reducible refine LeO.ite ?_ ?_)
   | (with_reducible refine LeO.bind ?_ (fun _ => ?_))
   | exact ih0 _ _ _ _ _ _ _
   | exact impl_NullityOf.mono _ _ _ _
   | exact laws_eqGraph.mono _ _ _ _ _
   | exact laws_eqIntS.mono _ _ _
   | exact laws_toGraph.mono _ _ _
   | exact laws_toIntS.mono _ _
   | exact spec_NullityOf.mono _ _ _ _
   | exact LeO.none _
   | refine LeO.ite ?_ ?_
   | refine LeO.bind ?_ (fun _ => ?_)
set_option maxHeartbeats 8000000 in
set_option maxRecDepth 100000 in
theorem laws_FnExactNullityOf.calls (k : Nat) (a0_0 : Int) (A0_1 : Option Addr) (c0_1 : Nat) (l0_1 : List (S80)) (A1 : Option Addr) (c1 : Nat) (l1 : List Int) (r : Bool) (w : World) (hr0_1 : Kd.C k80 w A0_1 l0_1.length l0_1) (hc0_1 : l0_1.length ≤ c0_1) (hr1 : Kd.C (Kd.int .i64) w A1 l1.length l1) (hc1 : l1.length ≤ c1) (h : laws_FnExactNullityOf.f k a0_0 l0_1 l1 = some r) :
  Calls Try.prog 3 #[.agg #[.int .i64 a0_0, .slice A0_1 l0_1.length c0_1], .slice A1 l1.length c1] w fun e w' => e = .returned (.bool r) ∧ Below w.heap.size w w' := by
 have hu24 := Try.underlying24
 have hu29 := Try.underlying29
 have HR0_1 := Aside0.mk hr0_1
 have HC0_1 := Aside0.mk hc0_1
 clear hr0_1 hc0_1
 have HR1 := Aside0.mk hr1
 have HC1 := Aside0.mk hc1
 clear hr1 hc1
 have HB := Aside0.mk (Below.refl w.heap.size w)
 have H : (if (l1.length : Int) > 1048576 then (some true) else ((laws_szGraph.f a0_0 l0_1 1048576).bind fun t209 => (if t209 < 0 then (some true) else ((laws_toGraph.f k a0_0 l0_1).bind fun bt210 => ((laws_toIntS.f k l1).bind fun t214 => ((spec_NullityOf.f k bt210.1 bt210.2 t214).bind fun bt217 => ((laws_toGraph.f k a0_0 l0_1).bind fun bt219 => ((laws_toIntS.f k l1).bind fun t224 => ((impl_NullityOf.f k bt219.1 bt219.2 t224).bind fun bt227 => (if bt227.1 = bt217.1 then (laws_FnExactNullityOf.j0 k l1 t224 (bt227.2 != bt217.2) a0_0 l0_1 bt219.1 bt219.2) else (laws_FnExactNullityOf.j0 k l1 t224 true a0_0 l0_1 bt219.1 bt219.2))))))))))) = some r := h
 clear h
 by_cases c3 : (l1.length : Int) > 1048576
 ·rw [if_pos c3] at H
  have c3b0 : decide (1048576 < (l1.length : Int)) = true := decide_eq_true c3
  have c3b1 : decide (1048576 < l1.length) = true := decide_eq_true (by omega)
  clear c3
  obtain rfl := Option.some.inj H
  go_enter Try.func3, Try.ntmps3
  go_wp2_with (first | ((with_reducible refine gate_dst (N := 2) rfl ?_);refine box_event ?hg (N := 2) ?hd (cs := #[.int .i64 a0_0, .slice A0_1 l0_1.length c0_1]) (t := 24) ?hr ?_;(case hd => rfl);(case hg => rfl);(case hr => first | (go_simp;done) | (go_simp;rfl));intro gb208 hg w4 hbox hb;have n0_ := Aside0.mk (below_step (by exact bB) hb);have n1_ := Aside0.mk (hbox);have n2_ := Aside0.mk ((by rw [hg];exact (below_size (by exact bB)) : w.heap.size ≤ gb208));have n3_ := Aside0.mk ((by rw [hg];exact (below_size (by exact bB)) : w.heap.size ≤ gb208));clear HB;have HB := n0_;have BK208 := n1_;have GW208 := n2_;have GE208 := n3_;clear n0_ n1_ n2_ n3_;clear hb hbox hg))
  go_ret
  exact ⟨by first | rfl | (simp [errW_none, errW_some] <;> rfl) | (simp [*, errW_none, errW_some] <;> rfl), by exact bB⟩
 ·rw [if_neg c3] at H
  have c3b0 : decide (1048576 < (l1.length : Int)) = false := decide_eq_false c3
  have c3b1 : decide (1048576 < l1.length) = false := decide_eq_false (by omega)
  clear c3
  replace H := Option.bind_eq_some_iff.mp H
  obtain ⟨t209, A50, H⟩ := H
  replace H : (if t209 < 0 then (some true) else ((laws_toGraph.f k a0_0 l0_1).bind fun bt210 => ((laws_toIntS.f k l1).bind fun t214 => ((spec_NullityOf.f k bt210.1 bt210.2 t214).bind fun bt217 => ((laws_toGraph.f k a0_0 l0_1).bind fun bt219 => ((laws_toIntS.f k l1).bind fun t224 => ((impl_NullityOf.f k bt219.1 bt219.2 t224).bind fun bt227 => (if bt227.1 = bt217.1 then (laws_FnExactNullityOf.j0 k l1 t224 (bt227.2 != bt217.2) a0_0 l0_1 bt219.1 bt219.2) else (laws_FnExactNullityOf.j0 k l1 t224 true a0_0 l0_1 bt219.1 bt219.2))))))))) = some r := H
  have A5 := Aside0.mk A50
  clear A50
  by_cases c6 : t209 < 0
  ·rw [if_pos c6] at H
   have c6b0 : decide (t209 < 0) = true := decide_eq_true c6
   clear c6
   obtain rfl := Option.some.inj H
   go_enter Try.func3, Try.ntmps3
   go_wp2_with (first | ((with_reducible refine gate_dst (N := 2) rfl ?_);refine box_event ?hg (N := 2) ?hd (cs := #[.int .i64 a0_0, .slice A0_1 l0_1.length c0_1]) (t := 24) ?hr ?_;(case hd => rfl);(case hg => rfl);(case hr => first | (go_simp;done) | (go_simp;rfl));intro gb208 hg w7 hbox hb;have n0_ := Aside0.mk (below_step (by exact bB) hb);have n1_ := Aside0.mk (hbox);have n2_ := Aside0.mk ((by rw [hg];exact (below_size (by exact bB)) : w.heap.size ≤ gb208));have n3_ := Aside0.mk ((by rw [hg];exact (below_size (by exact bB)) : w.heap.size ≤ gb208));clear HB;have HB := n0_;have BK208 := n1_;have GW208 := n2_;have GE208 := n3_;clear n0_ n1_ n2_ n3_;clear hb hbox hg;have hcz8_0 : w7.cell? ⟨gb208, 0, none⟩ = some (.int .i64 a0_0) := (blk_cell BK208.out 0).trans rfl;have hcz8_1 : w7.cell? ⟨gb208, 1, none⟩ = some (.slice A0_1 l0_1.length c0_1) := (blk_cell BK208.out 1).trans rfl;have hfz8_0 := blk_frozen BK208.out 0;have hfz8_1 := blk_frozen BK208.out 1) | ((with_reducible refine gate_callee (f := 9) rfl ?_);refine goesL_ (some 17) rfl rfl Try.func9 (by kernel_rfl) rfl #[.agg #[.int .i64 a0_0, .slice A0_1 l0_1.length c0_1], .int .i64 1048576] rfl mM ?_;(with_reducible refine (laws_szGraph.calls a0_0 _ _ l0_1 1048576 t209 _ ?side1 ?side2 A5.out).mono ?_);(case side1 => exact cP (Kd.C_below HR0_1.out HB.out));(case side2 => exact HC0_1.out);rintro e w9 ⟨rfl, hb⟩;refine ⟨_, rfl, ?_⟩;have n0_ := Aside0.mk (blk_below (g := gb208) (o := .cells #[.int .i64 a0_0, .slice A0_1 l0_1.length c0_1] 24 (0, 0)) (by exact kP BK208.out) hb);have n1_ := Aside0.mk (below_step (by exact bB) hb);clear BK208;clear HB;have BK208 := n0_;have HB := n1_;clear n0_ n1_;(try clear hb);(try clear hb2);(try clear hk);(try clear hi)))
   go_ret
   exact ⟨by first | rfl | (simp [errW_none, errW_some] <;> rfl) | (simp [*, errW_none, errW_some] <;> rfl), by exact bB⟩
  ·rw [if_neg c6] at H
   have c6b0 : decide (t209 < 0) = false := decide_eq_false c6
   clear c6
   replace H := Option.bind_eq_some_iff.mp H
   obtain ⟨⟨t210, t211⟩, A100, H⟩ := H
   replace H : ((laws_toIntS.f k l1).bind fun t214 => ((spec_NullityOf.f k t210 t211 t214).bind fun bt217 => ((laws_toGraph.f k a0_0 l0_1).bind fun bt219 => ((laws_toIntS.f k l1).bind fun t224 => ((impl_NullityOf.f k bt219.1 bt219.2 t224).bind fun bt227 => (if bt227.1 = bt217.1 then (laws_FnExactNullityOf.j0 k l1 t224 (bt227.2 != bt217.2) a0_0 l0_1 bt219.1 bt219.2) else (laws_FnExactNullityOf.j0 k l1 t224 true a0_0 l0_1 bt219.1 bt219.2))))))) = some r := H
   have A10 := Aside0.mk A100
   clear A100
   replace H := Option.bind_eq_some_iff.mp H
   obtain ⟨t214, A110, H⟩ := H
   replace H : ((spec_NullityOf.f k t210 t211 t214).bind fun bt217 => ((laws_toGraph.f k a0_0 l0_1).bind fun bt219 => ((laws_toIntS.f k l1).bind fun t224 => ((impl_NullityOf.f k bt219.1 bt219.2 t224).bind fun bt227 => (if bt227.1 = bt217.1 then (laws_FnExactNullityOf.j0 k l1 t224 (bt227.2 != bt217.2) a0_0 l0_1 bt219.1 bt219.2) else (laws_FnExactNullityOf.j0 k l1 t224 true a0_0 l0_1 bt219.1 bt219.2)))))) = some r := H
   have A11 := Aside0.mk A110
   clear A110
   replace H := Option.bind_eq_some_iff.mp H
   obtain ⟨⟨t217, t218⟩, A120, H⟩ := H
   replace H : ((laws_toGraph.f k a0_0 l0_1).bind fun bt219 => ((laws_toIntS.f k l1).bind fun t224 => ((impl_NullityOf.f k bt219.1 bt219.2 t224).bind fun bt227 => (if bt227.1 = t217 then (laws_FnExactNullityOf.j0 k l1 t224 (bt227.2 != t218) a0_0 l0_1 bt219.1 bt219.2) else (laws_FnExactNullityOf.j0 k l1 t224 true a0_0 l0_1 bt219.1 bt219.2))))) = some r := H
   have A12 := Aside0.mk A120
   clear A120
   replace H := Option.bind_eq_some_iff.mp H
   obtain ⟨⟨t219, t220⟩, A130, H⟩ := H
   replace H : ((laws_toIntS.f k l1).bind fun t224 => ((impl_NullityOf.f k t219 t220 t224).bind fun bt227 => (if bt227.1 = t217 then (laws_FnExactNullityOf.j0 k l1 t224 (bt227.2 != t218) a0_0 l0_1 t219 t220) else (laws_FnExactNullityOf.j0 k l1 t224 true a0_0 l0_1 t219 t220)))) = some r := H
   have A13 := Aside0.mk A130
   clear A130
   replace H := Option.bind_eq_some_iff.mp H
   obtain ⟨t224, A140, H⟩ := H
   replace H : ((impl_NullityOf.f k t219 t220 t224).bind fun bt227 => (if bt227.1 = t217 then (laws_FnExactNullityOf.j0 k l1 t224 (bt227.2 != t218) a0_0 l0_1 t219 t220) else (laws_FnExactNullityOf.j0 k l1 t224 true a0_0 l0_1 t219 t220))) = some r := H
   have A14 := Aside0.mk A140
   clear A140
   replace H := Option.bind_eq_some_iff.mp H
   obtain ⟨⟨t227, t228⟩, A150, H⟩ := H
   replace H : (if t227 = t217 then (laws_FnExactNullityOf.j0 k l1 t224 (t228 != t218) a0_0 l0_1 t219 t220) else (laws_FnExactNullityOf.j0 k l1 t224 true a0_0 l0_1 t219 t220)) = some r := H
   have A15 := Aside0.mk A150
   clear A150
   have HC16 := Aside0.mk H
   clear H
   go_enter Try.func3, Try.ntmps3
   go_upto_region 11 with (first | ((with_reducible refine gate_dst (N := 2) rfl ?_);refine box_event ?hg (N := 2) ?hd (cs := #[.int .i64 a0_0, .slice A0_1 l0_1.length c0_1]) (t := 24) ?hr ?_;(case hd => rfl);(case hg => rfl);(case hr => first | (go_simp;done) | (go_simp;rfl));intro gb208 hg w17 hbox hb;have n0_ := Aside0.mk (below_step (by exact bB) hb);have n1_ := Aside0.mk (hbox);have n2_ := Aside0.mk ((by rw [hg];exact (below_size (by exact bB)) : w.heap.size ≤ gb208));have n3_ := Aside0.mk ((by rw [hg];exact (below_size (by exact bB)) : w.heap.size ≤ gb208));clear HB;have HB := n0_;have BK208 := n1_;have GW208 := n2_;have GE208 := n3_;clear n0_ n1_ n2_ n3_;clear hb hbox hg;have hcz18_0 : w17.cell? ⟨gb208, 0, none⟩ = some (.int .i64 a0_0) := (blk_cell BK208.out 0).trans rfl;have hcz18_1 : w17.cell? ⟨gb208, 1, none⟩ = some (.slice A0_1 l0_1.length c0_1) := (blk_cell BK208.out 1).trans rfl;have hfz18_0 := blk_frozen BK208.out 0;have hfz18_1 := blk_frozen BK208.out 1) | ((with_reducible refine gate_callee (f := 9) rfl ?_);refine goesL_ (some 17) rfl rfl Try.func9 (by kernel_rfl) rfl #[.agg #[.int .i64 a0_0, .slice A0_1 l0_1.length c0_1], .int .i64 1048576] rfl mM ?_;(with_reducible refine (laws_szGraph.calls a0_0 _ _ l0_1 1048576 t209 _ ?side1 ?side2 A5.out).mono ?_);(case side1 => exact cP (Kd.C_below HR0_1.out HB.out));(case side2 => exact HC0_1.out);rintro e w19 ⟨rfl, hb⟩;refine ⟨_, rfl, ?_⟩;have n0_ := Aside0.mk (blk_below (g := gb208) (o := .cells #[.int .i64 a0_0, .slice A0_1 l0_1.length c0_1] 24 (0, 0)) (by exact kP BK208.out) hb);have n1_ := Aside0.mk (below_step (by exact bB) hb);clear BK208;clear HB;have BK208 := n0_;have HB := n1_;clear n0_ n1_;(try clear hb);(try clear hb2);(try clear hk);(try clear hi);have hcz20_0 : w19.cell? ⟨gb208, 0, none⟩ = some (.int .i64 a0_0) := (blk_cell BK208.out 0).trans rfl;have hcz20_1 : w19.cell? ⟨gb208, 1, none⟩ = some (.slice A0_1 l0_1.length c0_1) := (blk_cell BK208.out 1).trans rfl;have hfz20_0 := blk_frozen BK208.out 0;have hfz20_1 := blk_frozen BK208.out 1) | ((with_reducible refine gate_callee (f := 11) rfl ?_);refine goesL_ (some 22) rfl rfl Try.func11 (by kernel_rfl) rfl #[.agg #[.int .i64 a0_0, .slice A0_1 l0_1.length c0_1]] rfl mM ?_;(with_reducible refine (laws_toGraph.calls k a0_0 _ _ l0_1 t210 t211 _ ?side1 ?side2 A10.out).mono ?_);(case side1 => exact cP (Kd.C_below HR0_1.out HB.out));(case side2 => exact HC0_1.out);rintro e w21 ⟨v212, rfl, ho0, hb⟩;refine ⟨_, rfl, ?_⟩;have n0_ := Aside0.mk (Kd.R_lower ho0 (below_size (by exact bB)));have n1_ := Aside0.mk (blk_below (g := gb208) (o := .cells #[.int .i64 a0_0, .slice A0_1 l0_1.length c0_1] 24 (0, 0)) (by exact kP BK208.out) hb);have n2_ := Aside0.mk (below_step (by exact bB) hb);clear BK208;clear HB;have HO213 := n0_;have BK208 := n1_;have HB := n2_;clear n0_ n1_ n2_;(try clear hb);(try clear hb2);(try clear hk);(try clear hi);(try clear ho0)) | ((with_reducible refine gate_callee (f := 12) rfl ?_);refine goesL_ (some 24) rfl rfl Try.func12 (by kernel_rfl) rfl #[.slice A1 l1.length c1] rfl mM ?_;(with_reducible refine (laws_toIntS.calls k _ _ l1 t214 _ ?side1 ?side2 A11.out).mono ?_);(case side1 => exact cP (Kd.C_below HR1.out HB.out));(case side2 => exact HC1.out);rintro e w22 ⟨v215, rfl, ho0, hb⟩;refine ⟨_, rfl, ?_⟩;have n0_ := Aside0.mk (Kd.R_below (by exact rP HO213.out) hb);have n1_ := Aside0.mk (Kd.R_lower ho0 (below_size (by exact bB)));have n2_ := Aside0.mk (blk_below (g := gb208) (o := .cells #[.int .i64 a0_0, .slice A0_1 l0_1.length c0_1] 24 (0, 0)) (by exact kP BK208.out) hb);have n3_ := Aside0.mk (below_step (by exact bB) hb);clear HO213;clear BK208;clear HB;have HO213 := n0_;have HO216 := n1_;have BK208 := n2_;have HB := n3_;clear n0_ n1_ n2_ n3_;(try clear hb);(try clear hb2);(try clear hk);(try clear hi);(try clear ho0);obtain ⟨Ao23, co23, eo23⟩ := Kd.R_slice HO213.out;subst eo23;obtain ⟨Ao24, co24, eo24⟩ := Kd.R_slice HO216.out;subst eo24) | ((with_reducible refine gate_callee (f := 10) rfl ?_);refine goesL_ (some 25) rfl rfl Try.func10 (by kernel_rfl) rfl #[.agg #[.int .i64 t210, .slice Ao23 t211.length co23], .slice Ao24 t214.length co24] rfl mM ?_;(with_reducible refine (spec_NullityOf.calls k t210 _ _ t211 _ _ t214 t217 t218 _ ?side1 ?side2 ?side3 ?side4 A12.out).mono ?_);(case side1 => exact cP (Kd.R_reads' HO213.out).2.2);(case side2 => exact (Kd.R_reads' HO213.out).2.1);(case side3 => exact cP (Kd.R_reads' HO216.out).2.2);(case side4 => exact (Kd.R_reads' HO216.out).2.1);rintro e w25 ⟨rfl, hb⟩;refine ⟨_, rfl, ?_⟩;have n0_ := Aside0.mk (Kd.R_below (by exact rP HO213.out) hb);have n1_ := Aside0.mk (Kd.R_below (by exact rP HO216.out) hb);have n2_ := Aside0.mk (blk_below (g := gb208) (o := .cells #[.int .i64 a0_0, .slice A0_1 l0_1.length c0_1] 24 (0, 0)) (by exact kP BK208.out) hb);have n3_ := Aside0.mk (below_step (by exact bB) hb);clear HO213;clear HO216;clear BK208;clear HB;have HO213 := n0_;have HO216 := n1_;have BK208 := n2_;have HB := n3_;clear n0_ n1_ n2_ n3_;(try clear hb);(try clear hb2);(try clear hk);(try clear hi);have hcz26_0 : w25.cell? ⟨gb208, 0, none⟩ = some (.int .i64 a0_0) := (blk_cell BK208.out 0).trans rfl;have hcz26_1 : w25.cell? ⟨gb208, 1, none⟩ = some (.slice A0_1 l0_1.length c0_1) := (blk_cell BK208.out 1).trans rfl;have hfz26_0 := blk_frozen BK208.out 0;have hfz26_1 := blk_frozen BK208.out 1) | ((with_reducible refine gate_callee (f := 11) rfl ?_);refine goesL_ (some 29) rfl rfl Try.func11 (by kernel_rfl) rfl #[.agg #[.int .i64 a0_0, .slice A0_1 l0_1.length c0_1]] rfl mM ?_;(with_reducible refine (laws_toGraph.calls k a0_0 _ _ l0_1 t219 t220 _ ?side1 ?side2 A13.out).mono ?_);(case side1 => exact cP (Kd.C_below HR0_1.out HB.out));(case side2 => exact HC0_1.out);rintro e w27 ⟨v221, rfl, ho0, hb⟩;refine ⟨_, rfl, ?_⟩;have n0_ := Aside0.mk (Kd.R_elder' (by exact rP HO213.out) (Kd.R_base ho0) hb);have n1_ := Aside0.mk (Kd.R_below (by exact rP HO216.out) hb);have n2_ := Aside0.mk (Kd.R_lower (Kd.R_new' ho0 (Kd.R_lt (by exact rP HO213.out))) (below_size (by exact bB)));have n3_ := Aside0.mk (blk_below (g := gb208) (o := .cells #[.int .i64 a0_0, .slice A0_1 l0_1.length c0_1] 24 (0, 0)) (by exact kP BK208.out) hb);have n4_ := Aside0.mk (below_step (by exact bB) hb);clear HO213;clear HO216;clear BK208;clear HB;have HO213 := n0_;have HO216 := n1_;have HO222 := n2_;have BK208 := n3_;have HB := n4_;clear n0_ n1_ n2_ n3_ n4_;(try clear hb);(try clear hb2);(try clear hk);(try clear hi);(try clear ho0)) | ((with_reducible refine gate_dst (N := 8) rfl ?_);refine box_event ?hg (N := 8) ?hd (cs := #[.int .i64 0, .slice none 0 0]) (t := 29) ?hr ?_;(case hd => rfl);(case hg => rfl);(case hr => first | (go_simp;done) | (go_simp;rfl));intro gb223 hg w28 hbox hb;have n0_ := Aside0.mk (Kd.R_below (by exact rP HO213.out) hb);have n1_ := Aside0.mk (Kd.R_below (by exact rP HO216.out) hb);have n2_ := Aside0.mk (Kd.R_below (by exact rP HO222.out) hb);have n3_ := Aside0.mk (blk_below (g := gb208) (o := .cells #[.int .i64 a0_0, .slice A0_1 l0_1.length c0_1] 24 (0, 0)) (by exact kP BK208.out) hb);have n4_ := Aside0.mk (below_step (by exact bB) hb);have n5_ := Aside0.mk (hbox);have n6_ := Aside0.mk ((by rw [hg];exact (below_size (by exact bB)) : w.heap.size ≤ gb223));have n7_ := Aside0.mk ((by rw [hg];exact (below_size (by exact bB)) : w.heap.size ≤ gb223));have n8_ := Aside0.mk ((by rw [hg];exact Nat.ne_of_lt (blk_lt (g := gb208) (o := .cells #[.int .i64 a0_0, .slice A0_1 l0_1.length c0_1] 24 (0, 0)) (by exact kP BK208.out)) : gb208 ≠ gb223));have n9_ := Aside0.mk ((by rw [hg];exact Nat.ne_of_gt (blk_lt (g := gb208) (o := .cells #[.int .i64 a0_0, .slice A0_1 l0_1.length c0_1] 24 (0, 0)) (by exact kP BK208.out)) : gb223 ≠ gb208));clear HO213;clear HO216;clear HO222;clear BK208;clear HB;have HO213 := n0_;have HO216 := n1_;have HO222 := n2_;have BK208 := n3_;have HB := n4_;have BK223 := n5_;have GW223 := n6_;have GE223 := n7_;have NB208_223 := n8_;have NB223_208 := n9_;clear n0_ n1_ n2_ n3_ n4_ n5_ n6_ n7_ n8_ n9_;clear hb hbox hg;have hnb29 := NB223_208.out;have hnc29 := NB208_223.out;have hcz30_0 : w28.cell? ⟨gb223, 0, none⟩ = some (.int .i64 0) := (blk_cell BK223.out 0).trans rfl;have hcz30_1 : w28.cell? ⟨gb223, 1, none⟩ = some (.slice none 0 0) := (blk_cell BK223.out 1).trans rfl;have hfz30_0 := blk_frozen BK223.out 0;have hfz30_1 := blk_frozen BK223.out 1;obtain ⟨Ao31, co31, eo31⟩ := Kd.R_slice HO222.out;subst eo31) | ((with_reducible refine gate_callee (f := 12) rfl ?_);refine goesL_ (some 31) rfl rfl Try.func12 (by kernel_rfl) rfl #[.slice A1 l1.length c1] rfl mM ?_;(with_reducible refine (laws_toIntS.calls k _ _ l1 t224 _ ?side1 ?side2 A14.out).mono ?_);(case side1 => exact Kd.C_below HR1.out (by exact bB));(case side2 => exact HC1.out);rintro e w32 ⟨v225, rfl, ho0, hb⟩;refine ⟨_, rfl, ?_⟩;have n0_ := Aside0.mk (Kd.R_below (by exact rP ((Kd.R_mono (Kd.R_far (p := ⟨gb223, 1, none⟩) (Kd.R_far (p := ⟨gb223, 0, none⟩) (Kd.R_types HO213.out BK223.out (by decide)) (fun _ hk => hk.2) (.int .i64 t219)) (fun _ hk => hk.2) (.slice Ao31 t220.length co31)) (fun _ h_ => h_.1)))) hb);have n1_ := Aside0.mk (Kd.R_elder' (by exact rP ((Kd.R_mono (Kd.R_far (p := ⟨gb223, 1, none⟩) (Kd.R_far (p := ⟨gb223, 0, none⟩) (Kd.R_types HO216.out BK223.out (by decide)) (fun _ hk => hk.2) (.int .i64 t219)) (fun _ hk => hk.2) (.slice Ao31 t220.length co31)) (fun _ h_ => h_.1)))) (Kd.R_base ho0) hb);have n2_ := Aside0.mk (Kd.R_below (by exact rP ((Kd.R_mono (Kd.R_far (p := ⟨gb223, 1, none⟩) (Kd.R_far (p := ⟨gb223, 0, none⟩) (Kd.R_types HO222.out BK223.out (by decide)) (fun _ hk => hk.2) (.int .i64 t219)) (fun _ hk => hk.2) (.slice Ao31 t220.length co31)) (fun _ h_ => h_.1)))) hb);have n3_ := Aside0.mk (Kd.R_lower (Kd.R_new' ho0 (Kd.R_lt (by exact rP ((Kd.R_mono (Kd.R_far (p := ⟨gb223, 1, none⟩) (Kd.R_far (p := ⟨gb223, 0, none⟩) (Kd.R_types HO216.out BK223.out (by decide)) (fun _ hk => hk.2) (.int .i64 t219)) (fun _ hk => hk.2) (.slice Ao31 t220.length co31)) (fun _ h_ => h_.1)))))) (below_size (by exact bB)));have n4_ := Aside0.mk (blk_below (g := gb208) (o := .cells #[.int .i64 a0_0, .slice A0_1 l0_1.length c0_1] 24 (0, 0)) (by refine kP ?_;refine blk_far ?_ NB208_223.out _;refine kP ?_;refine blk_far ?_ NB208_223.out _;exact kP BK208.out) hb);have n5_ := Aside0.mk (blk_below (g := gb223) (o := .cells #[.int .i64 t219, .slice Ao31 t220.length co31] 29 (0, 0)) (by refine kP ?_;refine blk_put (cs := #[.int .i64 t219, .slice none 0 0]) ?_ 1 _ rfl;refine kP ?_;refine blk_put (cs := #[.int .i64 0, .slice none 0 0]) ?_ 0 _ rfl;exact kP BK223.out) hb);have n6_ := Aside0.mk (below_step (by exact bB) hb);clear HO213;clear HO216;clear HO222;clear BK208;clear BK223;clear HB;have HO213 := n0_;have HO216 := n1_;have HO222 := n2_;have HO226 := n3_;have BK208 := n4_;have BK223 := n5_;have HB := n6_;clear n0_ n1_ n2_ n3_ n4_ n5_ n6_;(try clear hb);(try clear hb2);(try clear hk);(try clear hi);(try clear ho0);have hcz33_0 : w32.cell? ⟨gb223, 0, none⟩ = some (.int .i64 t219) := (blk_cell BK223.out 0).trans rfl;have hcz33_1 : w32.cell? ⟨gb223, 1, none⟩ = some (.slice Ao31 t220.length co31) := (blk_cell BK223.out 1).trans rfl;have hfz33_0 := blk_frozen BK223.out 0;have hfz33_1 := blk_frozen BK223.out 1;obtain ⟨Ao34, co34, eo34⟩ := Kd.R_slice HO226.out;subst eo34) | ((with_reducible refine gate_callee (f := 13) rfl ?_);refine goesL_ (some 35) rfl rfl Try.func13 (by kernel_rfl) rfl #[.agg #[.int .i64 t219, .slice Ao31 t220.length co31], .slice Ao34 t224.length co34] rfl mM ?_;(with_reducible refine (impl_NullityOf.calls k t219 _ _ t220 _ _ t224 t227 t228 _ ?side1 ?side2 ?side3 ?side4 A15.out).mono ?_);(case side1 => exact cP (Kd.R_reads' HO222.out).2.2);(case side2 => exact (Kd.R_reads' HO222.out).2.1);(case side3 => exact cP (Kd.R_reads' HO226.out).2.2);(case side4 => exact (Kd.R_reads' HO226.out).2.1);rintro e w35 ⟨rfl, hb⟩;refine ⟨_, rfl, ?_⟩;have n0_ := Aside0.mk (Kd.R_below (by exact rP HO213.out) hb);have n1_ := Aside0.mk (Kd.R_below (by exact rP HO216.out) hb);have n2_ := Aside0.mk (Kd.R_below (by exact rP HO222.out) hb);have n3_ := Aside0.mk (Kd.R_below (by exact rP HO226.out) hb);have n4_ := Aside0.mk (blk_below (g := gb208) (o := .cells #[.int .i64 a0_0, .slice A0_1 l0_1.length c0_1] 24 (0, 0)) (by exact kP BK208.out) hb);have n5_ := Aside0.mk (blk_below (g := gb223) (o := .cells #[.int .i64 t219, .slice Ao31 t220.length co31] 29 (0, 0)) (by exact kP BK223.out) hb);have n6_ := Aside0.mk (below_step (by exact bB) hb);clear HO213;clear HO216;clear HO222;clear HO226;clear BK208;clear BK223;clear HB;have HO213 := n0_;have HO216 := n1_;have HO222 := n2_;have HO226 := n3_;have BK208 := n4_;have BK223 := n5_;have HB := n6_;clear n0_ n1_ n2_ n3_ n4_ n5_ n6_;(try clear hb);(try clear hb2);(try clear hk);(try clear hi)))
   (try simp only [Act.put, List.setIfInBounds_toArray, List.set_cons_zero, List.set_cons_succ])
   go_cut [45] (fun v45 wc => ∃ (kq : Nat) (x45_15 : Bool), v45 = .bool x45_15 ∧ Aside0 (laws_FnExactNullityOf.j0 kq l1 t224 x45_15 a0_0 l0_1 t219 t220 = some r) ∧ Aside0 (kq ≤ k) ∧ Aside0 (Kd.R (Kd.int .i64) 3 wc w.heap.size (fun _ => True) (.slice Ao34 t224.length co34) t224) ∧ Aside0 (Kd.R k80 80 wc w.heap.size (fun _ => True) (.slice Ao31 t220.length co31) t220) ∧ Aside0 (wc.heap[gb208]? = some (.cells #[.int .i64 a0_0, (.slice A0_1 l0_1.length c0_1)] 24 (0, 0))) ∧ Aside0 (wc.heap[gb223]? = some (.cells #[.int .i64 t219, (.slice Ao31 t220.length co31)] 29 (0, 0))) ∧ Aside0 (Below w.heap.size w wc))
   case first =>
    have H := HC16.out
    clear HC16
    by_cases c36 : t227 = t217
    ·rw [if_pos c36] at H
     have c36b0 : (t227 == t217) = true := beq_iff_eq.mpr c36
     have c36b1 : (t227 != t217) = false := bne_eq_false_iff_eq.mpr c36
     clear c36
     (first | rw [c36b0] | (simp only [i64_w, i32_w];rw [c36b0]) | skip)
     have H' := Aside0.mk H
     clear H
     go_wp2
     go_meet
     case rel => exact ⟨_, ((t228 != t218)), (by first | rfl | (simp;done) | (simp [*];done)), H', ⟨by first | omega | exact Nat.le_refl _⟩, ⟨by refine rP ?_;exact Kd.R_mono HO226.out (fun _ hk => trivial)⟩, ⟨by refine rP ?_;exact Kd.R_mono HO222.out (fun _ hk => trivial)⟩, ⟨by exact kP BK208.out⟩, ⟨by exact kP BK223.out⟩, ⟨by exact bB⟩⟩
    ·rw [if_neg c36] at H
     have c36b0 : (t227 == t217) = false := beq_eq_false_iff_ne.mpr c36
     have c36b1 : (t227 != t217) = true := bne_iff_ne.mpr c36
     (first | rw [c36b0] | (simp only [i64_w, i32_w];rw [c36b0]) | skip)
     have H' := Aside0.mk H
     clear H
     go_wp2
     go_meet
     case rel => exact ⟨_, (true), (by first | rfl | (simp;done) | (simp [*];done)), H', ⟨by first | omega | exact Nat.le_refl _⟩, ⟨by refine rP ?_;exact Kd.R_mono HO226.out (fun _ hk => trivial)⟩, ⟨by refine rP ?_;exact Kd.R_mono HO222.out (fun _ hk => trivial)⟩, ⟨by exact kP BK208.out⟩, ⟨by exact kP BK223.out⟩, ⟨by exact bB⟩⟩
   case rest =>
    clear HC16
    try clear c1
    try clear c2
    try clear p2
    try clear c3
    try clear c3b0
    try clear c3b1
    try clear c6
    try clear c6b0
    try clear c9
    try clear c10
    try clear c11
    try clear c12
    try clear c13
    try clear c29
    try clear c36
    try clear c36b0
    try clear c36b1
    try clear hcz18_0
    try clear hcz18_1
    try clear hcz20_0
    try clear hcz20_1
    try clear hcz26_0
    try clear hcz26_1
    try clear hcz30_0
    try clear hcz30_1
    try clear hcz33_0
    try clear hcz33_1
    try clear hcz8_0
    try clear hcz8_1
    try clear hfz18_0
    try clear hfz18_1
    try clear hfz20_0
    try clear hfz20_1
    try clear hfz26_0
    try clear hfz26_1
    try clear hfz30_0
    try clear hfz30_1
    try clear hfz33_0
    try clear hfz33_1
    try clear hfz8_0
    try clear hfz8_1
    obtain ⟨kq, x45_15, rfl, HA, HJ15, HO_9, HO_224001, BK208, BK223, HB⟩ := hcut
    cases kq with
    | zero => exact absurd HA.out (by simp [laws_FnExactNullityOf.j0])
    | succ kj15 =>
     have H := HA.out
     clear HA
     simp only [laws_FnExactNullityOf.j0] at H
     by_cases c37 : x45_15 = true
     ·subst c37
      have H1 : (some false) = some r := by rw [if_pos rfl] at H;exact H
      clear H
      have H := H1
      clear H1
      obtain rfl := Option.some.inj H
      go_wp2
      go_ret
      exact ⟨by first | rfl | (simp [errW_none, errW_some] <;> rfl) | (simp [*, errW_none, errW_some] <;> rfl), by exact bB⟩
     ·replace c37 := Bool.eq_false_iff.mpr c37
      subst c37
      have H1 : ((laws_toGraph.f kj15 a0_0 l0_1).bind fun bt229 => ((laws_eqGraph.f kj15 t219 t220 bt229.1 bt229.2).bind fun t233 => (if t233 = true then ((laws_toIntS.f kj15 l1).bind fun t234 => ((laws_eqIntS.f kj15 t224 t234).bind fun t237 => (if t237 = true then (some true) else (some false)))) else (some false)))) = some r := by rw [if_neg (show ¬ (false = true) by decide)] at H;exact H
      clear H
      have H := H1
      clear H1
      replace H := Option.bind_eq_some_iff.mp H
      obtain ⟨⟨t229, t230⟩, A380, H⟩ := H
      replace H : ((laws_eqGraph.f kj15 t219 t220 t229 t230).bind fun t233 => (if t233 = true then ((laws_toIntS.f kj15 l1).bind fun t234 => ((laws_eqIntS.f kj15 t224 t234).bind fun t237 => (if t237 = true then (some true) else (some false)))) else (some false))) = some r := H
      have A38 := Aside0.mk A380
      clear A380
      replace H := Option.bind_eq_some_iff.mp H
      obtain ⟨t233, A390, H⟩ := H
      replace H : (if t233 = true then ((laws_toIntS.f kj15 l1).bind fun t234 => ((laws_eqIntS.f kj15 t224 t234).bind fun t237 => (if t237 = true then (some true) else (some false)))) else (some false)) = some r := H
      have A39 := Aside0.mk A390
      clear A390
      by_cases c40 : t233 = true
      ·subst c40
       have H1 : ((laws_toIntS.f kj15 l1).bind fun t234 => ((laws_eqIntS.f kj15 t224 t234).bind fun t237 => (if t237 = true then (some true) else (some false)))) = some r := by rw [if_pos rfl] at H;exact H
       clear H
       have H := H1
       clear H1
       replace H := Option.bind_eq_some_iff.mp H
       obtain ⟨t234, A410, H⟩ := H
       replace H : ((laws_eqIntS.f kj15 t224 t234).bind fun t237 => (if t237 = true then (some true) else (some false))) = some r := H
       have A41 := Aside0.mk A410
       clear A410
       replace H := Option.bind_eq_some_iff.mp H
       obtain ⟨t237, A420, H⟩ := H
       replace H : (if t237 = true then (some true) else (some false)) = some r := H
       have A42 := Aside0.mk A420
       clear A420
       by_cases c43 : t237 = true
       ·subst c43
        have H1 : (some true) = some r := by rw [if_pos rfl] at H;exact H
        clear H
        have H := H1
        clear H1
        obtain rfl := Option.some.inj H
        try go_wp2
        have n0_ := Aside0.mk (Kd.R_drew HO_9.out)
        have n1_ := Aside0.mk (Kd.R_drew HO_224001.out)
        have n2_ := Aside0.mk (blk_drew BK208.out)
        have n3_ := Aside0.mk (blk_drew BK223.out)
        have n4_ := Aside0.mk (below_drew1 HB.out)
        clear HO_9
        clear HO_224001
        clear BK208
        clear BK223
        clear HB
        have HO_9 := n0_
        have HO_224001 := n1_
        have BK208 := n2_
        have BK223 := n3_
        have HB := n4_
        clear n0_ n1_ n2_ n3_ n4_
        refine start_ (n := 5) (S := fun w' => w'.cell? ⟨gb223, 0, none⟩ = some (.int .i64 t219) ∧ w'.cell? ⟨gb223, 1, none⟩ = some (.slice Ao31 t220.length co31) ∧ w'.cell? ⟨gb208, 0, none⟩ = some (.int .i64 a0_0) ∧ w'.cell? ⟨gb208, 1, none⟩ = some (.slice A0_1 l0_1.length c0_1)) (ds := []) #[false,false,false,false,false] (by kernel_rfl) rfl rfl ⟨(blk_cell BK223.out 0).trans rfl, (blk_cell BK223.out 1).trans rfl, (blk_cell BK208.out 0).trans rfl, (blk_cell BK208.out 1).trans rfl⟩ (fun hHeld => ?_)
        generalize wc.drew = w44 at HO_9 HO_224001 BK208 BK223 HB hHeld ⊢
        refine take_ (i := 0) (N := some 46) (v := ?_) (a' := ?_) #[true,false,false,false,false] rfl rfl (by kernel_rfl) (fun _ _ _ h => h) (Or.inl ⟨by rfl, ?_⟩) hHeld ?_ ?_
        rotate_left
        ·rintro w' ⟨s0, s1, s2, s3⟩
         go_simp
         with_reducible rfl
        rotate_left
        ·simp only [Act.put, List.setIfInBounds_toArray, List.set_cons_zero, List.set_cons_succ, i64_w, i32_w]
         rfl
        refine take_ (i := 1) (N := some 47) (v := ?_) (a' := ?_) #[true,true,false,false,false] rfl rfl (by kernel_rfl) (fun _ _ _ h => h) (Or.inl ⟨by rfl, ?_⟩) hHeld ?_ ?_
        rotate_left
        ·rintro w' ⟨s0, s1, s2, s3⟩
         go_simp
         with_reducible rfl
        rotate_left
        ·simp only [Act.put, List.setIfInBounds_toArray, List.set_cons_zero, List.set_cons_succ, i64_w, i32_w]
         rfl
        refine one_ (i := 2) (N := some 48) #[true,true,true,false,false] rfl rfl (by kernel_rfl) (by decide) (fun K hK => ?_)
        refine goes_ Try.func11 (by kernel_rfl) rfl #[.agg #[.int .i64 a0_0, .slice A0_1 l0_1.length c0_1]] (by rfl) rfl rfl mM ?_
        with_reducible refine (laws_toGraph.calls kj15 a0_0 _ _ l0_1 t229 t230 _ ?side1 ?side2 A38.out).mono ?_
        (case side1 => exact cP (Kd.C_below HR0_1.out HB.out))
        (case side2 => exact HC0_1.out)
        rintro e w45 ⟨v231, rfl, ho0, hb⟩
        refine ⟨_, rfl, ?_⟩
        have n0_ := Aside0.mk (Kd.R_below (by exact rP HO_9.out) hb)
        have n1_ := Aside0.mk (Kd.R_elder' (by exact rP HO_224001.out) (Kd.R_base ho0) hb)
        have n2_ := Aside0.mk (Kd.R_lower (Kd.R_new' ho0 (Kd.R_lt (by exact rP HO_224001.out))) (below_size (by exact bB)))
        have n3_ := Aside0.mk (blk_below (g := gb208) (o := .cells #[.int .i64 a0_0, .slice A0_1 l0_1.length c0_1] 24 (0, 0)) (by exact kP BK208.out) hb)
        have n4_ := Aside0.mk (blk_below (g := gb223) (o := .cells #[.int .i64 t219, .slice Ao31 t220.length co31] 29 (0, 0)) (by exact kP BK223.out) hb)
        have n5_ := Aside0.mk (below_step (by exact bB) hb)
        clear HO_9
        clear HO_224001
        clear BK208
        clear BK223
        clear HB
        have HO_9 := n0_
        have HO_224001 := n1_
        have HO232 := n2_
        have BK208 := n3_
        have BK223 := n4_
        have HB := n5_
        clear n0_ n1_ n2_ n3_ n4_ n5_
        (try clear hb)
        (try clear hb2)
        (try clear hk)
        (try clear hi)
        (try clear ho0)
        obtain ⟨Ao46, co46, eo46⟩ := Kd.R_slice HO232.out
        (first | subst eo46 | (injection eo46 with f1_ f2_ f3_;have f4_ := f1_.symm;have f5_ := f3_.symm;clear f1_ f2_ f3_;subst f4_;subst f5_))
        refine hK.out _ _ ⟨(blk_cell BK223.out 0).trans rfl, (blk_cell BK223.out 1).trans rfl, (blk_cell BK208.out 0).trans rfl, (blk_cell BK208.out 1).trans rfl⟩ (fun hHeld => ?_)
        clear hK K
        refine norm_ (a' := ?_) ?_ ?_
        rotate_left
        ·show Act.put _ (some 48) _ = _
         simp only [Act.put, List.setIfInBounds_toArray, List.set_cons_zero, List.set_cons_succ, i64_w, i32_w]
         rfl
        refine one_ (i := 3) (N := some 49) #[true,true,true,true,false] rfl rfl (by kernel_rfl) (by decide) (fun K hK => ?_)
        refine goes_ Try.func14 (by kernel_rfl) rfl #[.agg #[.int .i64 t219, .slice Ao31 t220.length co31], .agg #[.int .i64 t229, .slice Ao46 t230.length co46]] (by rfl) rfl rfl mM ?_
        with_reducible refine (laws_eqGraph.calls kj15 t219 _ _ t220 t229 _ _ t230 true _ ?side1 ?side2 ?side3 ?side4 A39.out).mono ?_
        (case side1 => exact cP (Kd.R_reads' HO_224001.out).2.2)
        (case side2 => exact (Kd.R_reads' HO_224001.out).2.1)
        (case side3 => exact cP (Kd.R_reads' HO232.out).2.2)
        (case side4 => exact (Kd.R_reads' HO232.out).2.1)
        rintro e w47 ⟨rfl, hb⟩
        refine ⟨_, rfl, ?_⟩
        have n0_ := Aside0.mk (Kd.R_below (by exact rP HO_9.out) hb)
        have n1_ := Aside0.mk (Kd.R_below (by exact rP HO_224001.out) hb)
        have n2_ := Aside0.mk (Kd.R_below (by exact rP HO232.out) hb)
        have n3_ := Aside0.mk (blk_below (g := gb208) (o := .cells #[.int .i64 a0_0, .slice A0_1 l0_1.length c0_1] 24 (0, 0)) (by exact kP BK208.out) hb)
        have n4_ := Aside0.mk (blk_below (g := gb223) (o := .cells #[.int .i64 t219, .slice Ao31 t220.length co31] 29 (0, 0)) (by exact kP BK223.out) hb)
        have n5_ := Aside0.mk (below_step (by exact bB) hb)
        clear HO_9
        clear HO_224001
        clear HO232
        clear BK208
        clear BK223
        clear HB
        have HO_9 := n0_
        have HO_224001 := n1_
        have HO232 := n2_
        have BK208 := n3_
        have BK223 := n4_
        have HB := n5_
        clear n0_ n1_ n2_ n3_ n4_ n5_
        (try clear hb)
        (try clear hb2)
        (try clear hk)
        (try clear hi)
        refine hK.out _ _ ⟨(blk_cell BK223.out 0).trans rfl, (blk_cell BK223.out 1).trans rfl, (blk_cell BK208.out 0).trans rfl, (blk_cell BK208.out 1).trans rfl⟩ (fun hHeld => ?_)
        clear hK K
        refine norm_ (a' := ?_) ?_ ?_
        rotate_left
        ·show Act.put _ (some 49) _ = _
         simp only [Act.put, List.setIfInBounds_toArray, List.set_cons_zero, List.set_cons_succ, i64_w, i32_w]
         rfl
        refine pure_ (i := 4) (N := some 50) (v := ?_) (a' := ?_) #[true,true,true,true,true] rfl rfl (by kernel_rfl) (fun _ _ _ h => h) (Or.inl ⟨by rfl, ?_⟩) ?_ ?_
        rotate_left
        ·intro w'
         go_simp
         with_reducible rfl
        rotate_left
        ·simp only [Act.put, List.setIfInBounds_toArray, List.set_cons_zero, List.set_cons_succ, i64_w, i32_w]
         rfl
        refine done_ (by kernel_rfl) ?_
        try go_wp2_with (first | ((with_reducible refine gate_callee (f := 12) rfl ?_);refine goesL_ (some 53) rfl rfl Try.func12 (by kernel_rfl) rfl #[.slice A1 l1.length c1] rfl mM ?_;(with_reducible refine (laws_toIntS.calls kj15 _ _ l1 t234 _ ?side1 ?side2 A41.out).mono ?_);(case side1 => exact cP (Kd.C_below HR1.out HB.out));(case side2 => exact HC1.out);rintro e w48 ⟨v235, rfl, ho0, hb⟩;refine ⟨_, rfl, ?_⟩;have n0_ := Aside0.mk (Kd.R_elder' (by exact rP HO_9.out) (Kd.R_base ho0) hb);have n1_ := Aside0.mk (Kd.R_below (by exact rP HO_224001.out) hb);have n2_ := Aside0.mk (Kd.R_below (by exact rP HO232.out) hb);have n3_ := Aside0.mk (Kd.R_lower (Kd.R_new' ho0 (Kd.R_lt (by exact rP HO_9.out))) (below_size (by exact bB)));have n4_ := Aside0.mk (blk_below (g := gb208) (o := .cells #[.int .i64 a0_0, .slice A0_1 l0_1.length c0_1] 24 (0, 0)) (by exact kP BK208.out) hb);have n5_ := Aside0.mk (blk_below (g := gb223) (o := .cells #[.int .i64 t219, .slice Ao31 t220.length co31] 29 (0, 0)) (by exact kP BK223.out) hb);have n6_ := Aside0.mk (below_step (by exact bB) hb);clear HO_9;clear HO_224001;clear HO232;clear BK208;clear BK223;clear HB;have HO_9 := n0_;have HO_224001 := n1_;have HO232 := n2_;have HO236 := n3_;have BK208 := n4_;have BK223 := n5_;have HB := n6_;clear n0_ n1_ n2_ n3_ n4_ n5_ n6_;(try clear hb);(try clear hb2);(try clear hk);(try clear hi);(try clear ho0);obtain ⟨Ao49, co49, eo49⟩ := Kd.R_slice HO236.out;subst eo49) | ((with_reducible refine gate_callee (f := 15) rfl ?_);refine goesL_ (some 54) rfl rfl Try.func15 (by kernel_rfl) rfl #[.slice Ao34 t224.length co34, .slice Ao49 t234.length co49] rfl mM ?_;(with_reducible refine (laws_eqIntS.calls kj15 _ _ t224 _ _ t234 true _ ?side1 ?side2 ?side3 ?side4 A42.out).mono ?_);(case side1 => exact cP (Kd.R_reads' HO_9.out).2.2);(case side2 => exact (Kd.R_reads' HO_9.out).2.1);(case side3 => exact cP (Kd.R_reads' HO236.out).2.2);(case side4 => exact (Kd.R_reads' HO236.out).2.1);rintro e w' ⟨rfl, ⟨nd, rfl⟩⟩;refine ⟨_, rfl, ?_⟩))
        go_ret
        exact ⟨by first | rfl | (simp [errW_none, errW_some] <;> rfl) | (simp [*, errW_none, errW_some] <;> rfl), by exact bB⟩
       ·replace c43 := Bool.eq_false_iff.mpr c43
        subst c43
        have H1 : (some false) = some r := by rw [if_neg (show ¬ (false = true) by decide)] at H;exact H
        clear H
        have H := H1
        clear H1
        obtain rfl := Option.some.inj H
        try go_wp2
        have n0_ := Aside0.mk (Kd.R_drew HO_9.out)
        have n1_ := Aside0.mk (Kd.R_drew HO_224001.out)
        have n2_ := Aside0.mk (blk_drew BK208.out)
        have n3_ := Aside0.mk (blk_drew BK223.out)
        have n4_ := Aside0.mk (below_drew1 HB.out)
        clear HO_9
        clear HO_224001
        clear BK208
        clear BK223
        clear HB
        have HO_9 := n0_
        have HO_224001 := n1_
        have BK208 := n2_
        have BK223 := n3_
        have HB := n4_
        clear n0_ n1_ n2_ n3_ n4_
        refine start_ (n := 5) (S := fun w' => w'.cell? ⟨gb223, 0, none⟩ = some (.int .i64 t219) ∧ w'.cell? ⟨gb223, 1, none⟩ = some (.slice Ao31 t220.length co31) ∧ w'.cell? ⟨gb208, 0, none⟩ = some (.int .i64 a0_0) ∧ w'.cell? ⟨gb208, 1, none⟩ = some (.slice A0_1 l0_1.length c0_1)) (ds := []) #[false,false,false,false,false] (by kernel_rfl) rfl rfl ⟨(blk_cell BK223.out 0).trans rfl, (blk_cell BK223.out 1).trans rfl, (blk_cell BK208.out 0).trans rfl, (blk_cell BK208.out 1).trans rfl⟩ (fun hHeld => ?_)
        generalize wc.drew = w50 at HO_9 HO_224001 BK208 BK223 HB hHeld ⊢
        refine take_ (i := 0) (N := some 46) (v := ?_) (a' := ?_) #[true,false,false,false,false] rfl rfl (by kernel_rfl) (fun _ _ _ h => h) (Or.inl ⟨by rfl, ?_⟩) hHeld ?_ ?_
        rotate_left
        ·rintro w' ⟨s0, s1, s2, s3⟩
         go_simp
         with_reducible rfl
        rotate_left
        ·simp only [Act.put, List.setIfInBounds_toArray, List.set_cons_zero, List.set_cons_succ, i64_w, i32_w]
         rfl
        refine take_ (i := 1) (N := some 47) (v := ?_) (a' := ?_) #[true,true,false,false,false] rfl rfl (by kernel_rfl) (fun _ _ _ h => h) (Or.inl ⟨by rfl, ?_⟩) hHeld ?_ ?_
        rotate_left
        ·rintro w' ⟨s0, s1, s2, s3⟩
         go_simp
         with_reducible rfl
        rotate_left
        ·simp only [Act.put, List.setIfInBounds_toArray, List.set_cons_zero, List.set_cons_succ, i64_w, i32_w]
         rfl
        refine one_ (i := 2) (N := some 48) #[true,true,true,false,false] rfl rfl (by kernel_rfl) (by decide) (fun K hK => ?_)
        refine goes_ Try.func11 (by kernel_rfl) rfl #[.agg #[.int .i64 a0_0, .slice A0_1 l0_1.length c0_1]] (by rfl) rfl rfl mM ?_
        with_reducible refine (laws_toGraph.calls kj15 a0_0 _ _ l0_1 t229 t230 _ ?side1 ?side2 A38.out).mono ?_
        (case side1 => exact cP (Kd.C_below HR0_1.out HB.out))
        (case side2 => exact HC0_1.out)
        rintro e w51 ⟨v231, rfl, ho0, hb⟩
        refine ⟨_, rfl, ?_⟩
        have n0_ := Aside0.mk (Kd.R_below (by exact rP HO_9.out) hb)
        have n1_ := Aside0.mk (Kd.R_elder' (by exact rP HO_224001.out) (Kd.R_base ho0) hb)
        have n2_ := Aside0.mk (Kd.R_lower (Kd.R_new' ho0 (Kd.R_lt (by exact rP HO_224001.out))) (below_size (by exact bB)))
        have n3_ := Aside0.mk (blk_below (g := gb208) (o := .cells #[.int .i64 a0_0, .slice A0_1 l0_1.length c0_1] 24 (0, 0)) (by exact kP BK208.out) hb)
        have n4_ := Aside0.mk (blk_below (g := gb223) (o := .cells #[.int .i64 t219, .slice Ao31 t220.length co31] 29 (0, 0)) (by exact kP BK223.out) hb)
        have n5_ := Aside0.mk (below_step (by exact bB) hb)
        clear HO_9
        clear HO_224001
        clear BK208
        clear BK223
        clear HB
        have HO_9 := n0_
        have HO_224001 := n1_
        have HO232 := n2_
        have BK208 := n3_
        have BK223 := n4_
        have HB := n5_
        clear n0_ n1_ n2_ n3_ n4_ n5_
        (try clear hb)
        (try clear hb2)
        (try clear hk)
        (try clear hi)
        (try clear ho0)
        obtain ⟨Ao52, co52, eo52⟩ := Kd.R_slice HO232.out
        (first | subst eo52 | (injection eo52 with f1_ f2_ f3_;have f4_ := f1_.symm;have f5_ := f3_.symm;clear f1_ f2_ f3_;subst f4_;subst f5_))
        refine hK.out _ _ ⟨(blk_cell BK223.out 0).trans rfl, (blk_cell BK223.out 1).trans rfl, (blk_cell BK208.out 0).trans rfl, (blk_cell BK208.out 1).trans rfl⟩ (fun hHeld => ?_)
        clear hK K
        refine norm_ (a' := ?_) ?_ ?_
        rotate_left
        ·show Act.put _ (some 48) _ = _
         simp only [Act.put, List.setIfInBounds_toArray, List.set_cons_zero, List.set_cons_succ, i64_w, i32_w]
         rfl
        refine one_ (i := 3) (N := some 49) #[true,true,true,true,false] rfl rfl (by kernel_rfl) (by decide) (fun K hK => ?_)
        refine goes_ Try.func14 (by kernel_rfl) rfl #[.agg #[.int .i64 t219, .slice Ao31 t220.length co31], .agg #[.int .i64 t229, .slice Ao52 t230.length co52]] (by rfl) rfl rfl mM ?_
        with_reducible refine (laws_eqGraph.calls kj15 t219 _ _ t220 t229 _ _ t230 true _ ?side1 ?side2 ?side3 ?side4 A39.out).mono ?_
        (case side1 => exact cP (Kd.R_reads' HO_224001.out).2.2)
        (case side2 => exact (Kd.R_reads' HO_224001.out).2.1)
        (case side3 => exact cP (Kd.R_reads' HO232.out).2.2)
        (case side4 => exact (Kd.R_reads' HO232.out).2.1)
        rintro e w53 ⟨rfl, hb⟩
        refine ⟨_, rfl, ?_⟩
        have n0_ := Aside0.mk (Kd.R_below (by exact rP HO_9.out) hb)
        have n1_ := Aside0.mk (Kd.R_below (by exact rP HO_224001.out) hb)
        have n2_ := Aside0.mk (Kd.R_below (by exact rP HO232.out) hb)
        have n3_ := Aside0.mk (blk_below (g := gb208) (o := .cells #[.int .i64 a0_0, .slice A0_1 l0_1.length c0_1] 24 (0, 0)) (by exact kP BK208.out) hb)
        have n4_ := Aside0.mk (blk_below (g := gb223) (o := .cells #[.int .i64 t219, .slice Ao31 t220.length co31] 29 (0, 0)) (by exact kP BK223.out) hb)
        have n5_ := Aside0.mk (below_step (by exact bB) hb)
        clear HO_9
        clear HO_224001
        clear HO232
        clear BK208
        clear BK223
        clear HB
        have HO_9 := n0_
        have HO_224001 := n1_
        have HO232 := n2_
        have BK208 := n3_
        have BK223 := n4_
        have HB := n5_
        clear n0_ n1_ n2_ n3_ n4_ n5_
        (try clear hb)
        (try clear hb2)
        (try clear hk)
        (try clear hi)
        refine hK.out _ _ ⟨(blk_cell BK223.out 0).trans rfl, (blk_cell BK223.out 1).trans rfl, (blk_cell BK208.out 0).trans rfl, (blk_cell BK208.out 1).trans rfl⟩ (fun hHeld => ?_)
        clear hK K
        refine norm_ (a' := ?_) ?_ ?_
        rotate_left
        ·show Act.put _ (some 49) _ = _
         simp only [Act.put, List.setIfInBounds_toArray, List.set_cons_zero, List.set_cons_succ, i64_w, i32_w]
         rfl
        refine pure_ (i := 4) (N := some 50) (v := ?_) (a' := ?_) #[true,true,true,true,true] rfl rfl (by kernel_rfl) (fun _ _ _ h => h) (Or.inl ⟨by rfl, ?_⟩) ?_ ?_
        rotate_left
        ·intro w'
         go_simp
         with_reducible rfl
        rotate_left
        ·simp only [Act.put, List.setIfInBounds_toArray, List.set_cons_zero, List.set_cons_succ, i64_w, i32_w]
         rfl
        refine done_ (by kernel_rfl) ?_
        try go_wp2_with (first | ((with_reducible refine gate_callee (f := 12) rfl ?_);refine goesL_ (some 53) rfl rfl Try.func12 (by kernel_rfl) rfl #[.slice A1 l1.length c1] rfl mM ?_;(with_reducible refine (laws_toIntS.calls kj15 _ _ l1 t234 _ ?side1 ?side2 A41.out).mono ?_);(case side1 => exact cP (Kd.C_below HR1.out HB.out));(case side2 => exact HC1.out);rintro e w54 ⟨v235, rfl, ho0, hb⟩;refine ⟨_, rfl, ?_⟩;have n0_ := Aside0.mk (Kd.R_elder' (by exact rP HO_9.out) (Kd.R_base ho0) hb);have n1_ := Aside0.mk (Kd.R_below (by exact rP HO_224001.out) hb);have n2_ := Aside0.mk (Kd.R_below (by exact rP HO232.out) hb);have n3_ := Aside0.mk (Kd.R_lower (Kd.R_new' ho0 (Kd.R_lt (by exact rP HO_9.out))) (below_size (by exact bB)));have n4_ := Aside0.mk (blk_below (g := gb208) (o := .cells #[.int .i64 a0_0, .slice A0_1 l0_1.length c0_1] 24 (0, 0)) (by exact kP BK208.out) hb);have n5_ := Aside0.mk (blk_below (g := gb223) (o := .cells #[.int .i64 t219, .slice Ao31 t220.length co31] 29 (0, 0)) (by exact kP BK223.out) hb);have n6_ := Aside0.mk (below_step (by exact bB) hb);clear HO_9;clear HO_224001;clear HO232;clear BK208;clear BK223;clear HB;have HO_9 := n0_;have HO_224001 := n1_;have HO232 := n2_;have HO236 := n3_;have BK208 := n4_;have BK223 := n5_;have HB := n6_;clear n0_ n1_ n2_ n3_ n4_ n5_ n6_;(try clear hb);(try clear hb2);(try clear hk);(try clear hi);(try clear ho0);obtain ⟨Ao55, co55, eo55⟩ := Kd.R_slice HO236.out;subst eo55) | ((with_reducible refine gate_callee (f := 15) rfl ?_);refine goesL_ (some 54) rfl rfl Try.func15 (by kernel_rfl) rfl #[.slice Ao34 t224.length co34, .slice Ao55 t234.length co55] rfl mM ?_;(with_reducible refine (laws_eqIntS.calls kj15 _ _ t224 _ _ t234 false _ ?side1 ?side2 ?side3 ?side4 A42.out).mono ?_);(case side1 => exact cP (Kd.R_reads' HO_9.out).2.2);(case side2 => exact (Kd.R_reads' HO_9.out).2.1);(case side3 => exact cP (Kd.R_reads' HO236.out).2.2);(case side4 => exact (Kd.R_reads' HO236.out).2.1);rintro e w' ⟨rfl, ⟨nd, rfl⟩⟩;refine ⟨_, rfl, ?_⟩))
        go_ret
        exact ⟨by first | rfl | (simp [errW_none, errW_some] <;> rfl) | (simp [*, errW_none, errW_some] <;> rfl), by exact bB⟩
      ·replace c40 := Bool.eq_false_iff.mpr c40
       subst c40
       have H1 : (some false) = some r := by rw [if_neg (show ¬ (false = true) by decide)] at H;exact H
       clear H
       have H := H1
       clear H1
       obtain rfl := Option.some.inj H
       try go_wp2
       have n0_ := Aside0.mk (Kd.R_drew HO_9.out)
       have n1_ := Aside0.mk (Kd.R_drew HO_224001.out)
       have n2_ := Aside0.mk (blk_drew BK208.out)
       have n3_ := Aside0.mk (blk_drew BK223.out)
       have n4_ := Aside0.mk (below_drew1 HB.out)
       clear HO_9
       clear HO_224001
       clear BK208
       clear BK223
       clear HB
       have HO_9 := n0_
       have HO_224001 := n1_
       have BK208 := n2_
       have BK223 := n3_
       have HB := n4_
       clear n0_ n1_ n2_ n3_ n4_
       refine start_ (n := 5) (S := fun w' => w'.cell? ⟨gb223, 0, none⟩ = some (.int .i64 t219) ∧ w'.cell? ⟨gb223, 1, none⟩ = some (.slice Ao31 t220.length co31) ∧ w'.cell? ⟨gb208, 0, none⟩ = some (.int .i64 a0_0) ∧ w'.cell? ⟨gb208, 1, none⟩ = some (.slice A0_1 l0_1.length c0_1)) (ds := []) #[false,false,false,false,false] (by kernel_rfl) rfl rfl ⟨(blk_cell BK223.out 0).trans rfl, (blk_cell BK223.out 1).trans rfl, (blk_cell BK208.out 0).trans rfl, (blk_cell BK208.out 1).trans rfl⟩ (fun hHeld => ?_)
       generalize wc.drew = w56 at HO_9 HO_224001 BK208 BK223 HB hHeld ⊢
       refine take_ (i := 0) (N := some 46) (v := ?_) (a' := ?_) #[true,false,false,false,false] rfl rfl (by kernel_rfl) (fun _ _ _ h => h) (Or.inl ⟨by rfl, ?_⟩) hHeld ?_ ?_
       rotate_left
       ·rintro w' ⟨s0, s1, s2, s3⟩
        go_simp
        with_reducible rfl
       rotate_left
       ·simp only [Act.put, List.setIfInBounds_toArray, List.set_cons_zero, List.set_cons_succ, i64_w, i32_w]
        rfl
       refine take_ (i := 1) (N := some 47) (v := ?_) (a' := ?_) #[true,true,false,false,false] rfl rfl (by kernel_rfl) (fun _ _ _ h => h) (Or.inl ⟨by rfl, ?_⟩) hHeld ?_ ?_
       rotate_left
       ·rintro w' ⟨s0, s1, s2, s3⟩
        go_simp
        with_reducible rfl
       rotate_left
       ·simp only [Act.put, List.setIfInBounds_toArray, List.set_cons_zero, List.set_cons_succ, i64_w, i32_w]
        rfl
       refine one_ (i := 2) (N := some 48) #[true,true,true,false,false] rfl rfl (by kernel_rfl) (by decide) (fun K hK => ?_)
       refine goes_ Try.func11 (by kernel_rfl) rfl #[.agg #[.int .i64 a0_0, .slice A0_1 l0_1.length c0_1]] (by rfl) rfl rfl mM ?_
       with_reducible refine (laws_toGraph.calls kj15 a0_0 _ _ l0_1 t229 t230 _ ?side1 ?side2 A38.out).mono ?_
       (case side1 => exact cP (Kd.C_below HR0_1.out HB.out))
       (case side2 => exact HC0_1.out)
       rintro e w57 ⟨v231, rfl, ho0, hb⟩
       refine ⟨_, rfl, ?_⟩
       have n0_ := Aside0.mk (Kd.R_below (by exact rP HO_9.out) hb)
       have n1_ := Aside0.mk (Kd.R_elder' (by exact rP HO_224001.out) (Kd.R_base ho0) hb)
       have n2_ := Aside0.mk (Kd.R_lower (Kd.R_new' ho0 (Kd.R_lt (by exact rP HO_224001.out))) (below_size (by exact bB)))
       have n3_ := Aside0.mk (blk_below (g := gb208) (o := .cells #[.int .i64 a0_0, .slice A0_1 l0_1.length c0_1] 24 (0, 0)) (by exact kP BK208.out) hb)
       have n4_ := Aside0.mk (blk_below (g := gb223) (o := .cells #[.int .i64 t219, .slice Ao31 t220.length co31] 29 (0, 0)) (by exact kP BK223.out) hb)
       have n5_ := Aside0.mk (below_step (by exact bB) hb)
       clear HO_9
       clear HO_224001
       clear BK208
       clear BK223
       clear HB
       have HO_9 := n0_
       have HO_224001 := n1_
       have HO232 := n2_
       have BK208 := n3_
       have BK223 := n4_
       have HB := n5_
       clear n0_ n1_ n2_ n3_ n4_ n5_
       (try clear hb)
       (try clear hb2)
       (try clear hk)
       (try clear hi)
       (try clear ho0)
       obtain ⟨Ao58, co58, eo58⟩ := Kd.R_slice HO232.out
       (first | subst eo58 | (injection eo58 with f1_ f2_ f3_;have f4_ := f1_.symm;have f5_ := f3_.symm;clear f1_ f2_ f3_;subst f4_;subst f5_))
       refine hK.out _ _ ⟨(blk_cell BK223.out 0).trans rfl, (blk_cell BK223.out 1).trans rfl, (blk_cell BK208.out 0).trans rfl, (blk_cell BK208.out 1).trans rfl⟩ (fun hHeld => ?_)
       clear hK K
       refine norm_ (a' := ?_) ?_ ?_
       rotate_left
       ·show Act.put _ (some 48) _ = _
        simp only [Act.put, List.setIfInBounds_toArray, List.set_cons_zero, List.set_cons_succ, i64_w, i32_w]
        rfl
       refine one_ (i := 3) (N := some 49) #[true,true,true,true,false] rfl rfl (by kernel_rfl) (by decide) (fun K hK => ?_)
       refine goes_ Try.func14 (by kernel_rfl) rfl #[.agg #[.int .i64 t219, .slice Ao31 t220.length co31], .agg #[.int .i64 t229, .slice Ao58 t230.length co58]] (by rfl) rfl rfl mM ?_
       with_reducible refine (laws_eqGraph.calls kj15 t219 _ _ t220 t229 _ _ t230 false _ ?side1 ?side2 ?side3 ?side4 A39.out).mono ?_
       (case side1 => exact cP (Kd.R_reads' HO_224001.out).2.2)
       (case side2 => exact (Kd.R_reads' HO_224001.out).2.1)
       (case side3 => exact cP (Kd.R_reads' HO232.out).2.2)
       (case side4 => exact (Kd.R_reads' HO232.out).2.1)
       rintro e w59 ⟨rfl, hb⟩
       refine ⟨_, rfl, ?_⟩
       have n0_ := Aside0.mk (Kd.R_below (by exact rP HO_9.out) hb)
       have n1_ := Aside0.mk (Kd.R_below (by exact rP HO_224001.out) hb)
       have n2_ := Aside0.mk (Kd.R_below (by exact rP HO232.out) hb)
       have n3_ := Aside0.mk (blk_below (g := gb208) (o := .cells #[.int .i64 a0_0, .slice A0_1 l0_1.length c0_1] 24 (0, 0)) (by exact kP BK208.out) hb)
       have n4_ := Aside0.mk (blk_below (g := gb223) (o := .cells #[.int .i64 t219, .slice Ao31 t220.length co31] 29 (0, 0)) (by exact kP BK223.out) hb)
       have n5_ := Aside0.mk (below_step (by exact bB) hb)
       clear HO_9
       clear HO_224001
       clear HO232
       clear BK208
       clear BK223
       clear HB
       have HO_9 := n0_
       have HO_224001 := n1_
       have HO232 := n2_
       have BK208 := n3_
       have BK223 := n4_
       have HB := n5_
       clear n0_ n1_ n2_ n3_ n4_ n5_
       (try clear hb)
       (try clear hb2)
       (try clear hk)
       (try clear hi)
       refine hK.out _ _ ⟨(blk_cell BK223.out 0).trans rfl, (blk_cell BK223.out 1).trans rfl, (blk_cell BK208.out 0).trans rfl, (blk_cell BK208.out 1).trans rfl⟩ (fun hHeld => ?_)
       clear hK K
       refine norm_ (a' := ?_) ?_ ?_
       rotate_left
       ·show Act.put _ (some 49) _ = _
        simp only [Act.put, List.setIfInBounds_toArray, List.set_cons_zero, List.set_cons_succ, i64_w, i32_w]
        rfl
       refine pure_ (i := 4) (N := some 50) (v := ?_) (a' := ?_) #[true,true,true,true,true] rfl rfl (by kernel_rfl) (fun _ _ _ h => h) (Or.inl ⟨by rfl, ?_⟩) ?_ ?_
       rotate_left
       ·intro w'
        go_simp
        with_reducible rfl
       rotate_left
       ·simp only [Act.put, List.setIfInBounds_toArray, List.set_cons_zero, List.set_cons_succ, i64_w, i32_w]
        rfl
       refine done_ (by kernel_rfl) ?_
       try go_wp2
       go_ret
       exact ⟨by first | rfl | (simp [errW_none, errW_some] <;> rfl) | (simp [*, errW_none, errW_some] <;> rfl), by exact bB⟩


end Go.Proofs.Ytaddgielnfhhpaa.QNullityOf
