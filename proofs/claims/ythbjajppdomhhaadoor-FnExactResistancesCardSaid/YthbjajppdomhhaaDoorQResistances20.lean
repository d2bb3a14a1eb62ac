import Derived.Test.YthbjajppdomhhaaDoorQResistances0
import Derived.Test.YthbjajppdomhhaaDoorQResistances1
import Derived.Test.YthbjajppdomhhaaDoorQResistances2
import Derived.Test.YthbjajppdomhhaaDoorQResistances11
import Derived.Test.YthbjajppdomhhaaDoorQResistances19
namespace Go.Proofs.YthbjajppdomhhaaDoor.QResistances
open Go.RowKit Go.Proofs.YthbjajppdomhhaaDoorW.PrintWords Go.Proofs.YthbjajppdomhhaaDoorW.PrintLast Go.Proofs.YthbjajppdomhhaaDoorW.PrintMore
attribute [local go_sem] max2_int min2_int max_two min_two max_three min_three max_four min_four   -- for this text's walks alone
set_option linter.unusedVariables false
set_option linter.unusedSimpArgs false
/-! ### laws_FnExactResistances: function 10 -/
mutual
def laws_FnExactResistances.j0 : Nat → Int → Bool → List Int → Bool → List Int → Bool → Bool → Int → List (S92) → Int → List (S92) → Option (Bool)
 | 0, _, _, _, _, _, _, _, _, _, _, _ => none
 | k + 1, x1, x2, x8, x9, x11, x12, x48, x527000, x527001, x541000, x541001 => if x48 = true then (some false) else ((laws_toGraph.f k x527000 x527001).bind fun bt546 => ((laws_eqGraph.f k x541000 x541001 bt546.1 bt546.2).bind fun t550 => (if t550 = true then ((laws_markGraph.f x541000 x541001 1).bind fun bt551 => (if bt551.1 < 0 then (laws_FnExactResistances.j1 k x1 x2 x8 x9 x11 true x527000 x527001) else ((laws_eqIntS.f k x11 x8).bind fun t553 => (if t553 = true then (laws_FnExactResistances.j1 k x1 x2 x8 x9 x11 (x12 != x9) x527000 x527001) else (laws_FnExactResistances.j1 k x1 x2 x8 x9 x11 true x527000 x527001))))) else (some false))))
def laws_FnExactResistances.j1 : Nat → Int → Bool → List Int → Bool → List Int → Bool → Int → List (S92) → Option (Bool)
 | 0, _, _, _, _, _, _, _, _ => none
 | k + 1, x1, x2, x8, x9, x11, x69, x527000, x527001 => if x69 = true then (some false) else ((laws_markIntS.f k x11 1).bind fun bt554 => ((laws_heldIntS.f k bt554.2 1).bind fun t556 => (if t556 < 0 then (some false) else (if t556 = bt554.1 then ((laws_toGraph.f k x527000 x527001).bind fun bt557 => ((impl_Resistances.f k bt557.1 bt557.2 x1 x2).bind fun bt561 => ((laws_eqIntS.f k bt561.1 x8).bind fun t565 => (if t565 = true then (laws_FnExactResistances.j2 k bt554.2 bt554.1 (bt561.2 != x9)) else (laws_FnExactResistances.j2 k bt554.2 bt554.1 true))))) else (some false)))))
def laws_FnExactResistances.j2 : Nat → List Int → Int → Bool → Option (Bool)
 | 0, _, _, _ => none
 | k + 1, x11, x14, x97 => if x97 = true then (some false) else ((laws_heldIntS.f k x11 1).bind fun t566 => (if t566 < 0 then (some false) else (if t566 = x14 then (some true) else (some false))))
end
def laws_FnExactResistances.f (k : Nat) (a0_0 : Int) (l0_1 : List (S92)) (a1 : Int) (a2 : Bool) : Option (Bool) := (laws_szGraph.f a0_0 l0_1 1048576).bind fun t527 => (if t527 < 0 then (some true) else ((laws_toGraph.f k a0_0 l0_1).bind fun bt528 => ((spec_Resistances.f k bt528.1 bt528.2 a1 a2).bind fun bt532 => ((laws_toGraph.f k a0_0 l0_1).bind fun bt536 => ((impl_Resistances.f k bt536.1 bt536.2 a1 a2).bind fun bt541 => ((laws_eqIntS.f k bt541.1 bt532.1).bind fun t545 => (if t545 = true then (laws_FnExactResistances.j0 k a1 a2 bt532.1 bt532.2 bt541.1 bt541.2 (bt541.2 != bt532.2) a0_0 l0_1 bt536.1 bt536.2) else (laws_FnExactResistances.j0 k a1 a2 bt532.1 bt532.2 bt541.1 bt541.2 true a0_0 l0_1 bt536.1 bt536.2))))))))
theorem laws_FnExactResistances.mono_l : ∀ k, (∀ y0 y1 y2 y3 y4 y5 y6 y7 y8 y9 y10, LeO (laws_FnExactResistances.j0 k y0 y1 y2 y3 y4 y5 y6 y7 y8 y9 y10) (laws_FnExactResistances.j0 (k + 1) y0 y1 y2 y3 y4 y5 y6 y7 y8 y9 y10)) ∧ (∀ y0 y1 y2 y3 y4 y5 y6 y7, LeO (laws_FnExactResistances.j1 k y0 y1 y2 y3 y4 y5 y6 y7) (laws_FnExactResistances.j1 (k + 1) y0 y1 y2 y3 y4 y5 y6 y7)) ∧ (∀ y0 y1 y2, LeO (laws_FnExactResistances.j2 k y0 y1 y2) (laws_FnExactResistances.j2 (k + 1) y0 y1 y2))
 | 0 => ⟨fun _ _ _ _ _ _ _ _ _ _ _ r h => by simp [laws_FnExactResistances.j0] at h, fun _ _ _ _ _ _ _ _ r h => by simp [laws_FnExactResistances.j1] at h, fun _ _ _ r h => by simp [laws_FnExactResistances.j2] at h⟩
 | k + 1 => by
  obtain ⟨ih0, ih1, ih2⟩ := laws_FnExactResistances.mono_l k
  refine ⟨?_, ?_, ?_⟩
  ·intro y0 y1 y2 y3 y4 y5 y6 y7 y8 y9 y10
   unfold laws_FnExactResistances.j0
   repeat' first
   | (with_reducible exact ih0 _ _ _ _ _ _ _ _ _ _ _)
   | (with_reducible exact ih1 _ _ _ _ _ _ _ _)
   | (with_reducible exact ih2 _ _ _)
   | (with_reducible exact impl_Resistances.mono _ _ _ _ _)
   | (with_reducible exact laws_eqGraph.mono _ _ _ _ _)
   | (with_reducible exact laws_eqIntS.mono _ _ _)
   | (with_reducible exact laws_heldIntS.mono _ _ _)
   | (with_reducible exact laws_markIntS.mono _ _ _)
   | (with_reducible exact laws_toGraph.mono _ _ _)
   | (with_reducible exact spec_Resistances.mono _ _ _ _ _)
   | (with_reducible exact LeO.refl _)
   | (with_reducible exact LeO.none _)
   | (with_reducible refine LeO.ite ?_ ?_)
   | (with_reducible refine LeO.bind ?_ (fun _ => ?_))
   | exact ih0 _ _ _ _ _ _ _ _ _ _ _
   | exact ih1 _ _ _ _ _ _ _ _
   | exact ih2 _ _ _
   | exact impl_Resistances.mono _ _ _ _ _
   | exact laws_eqGraph.mono _ _ _ _ _
   | exact laws_eqIntS.mono _ _ _
   | exact laws_heldIntS.mono _ _ _
   | exact laws_markIntS.mono _ _ _
   | exact laws_toGraph.mono _ _ _
   | exact spec_Resistances.mono _ _ _ _ _
   | exact LeO.none _
   | refine LeO.ite ?_ ?_
   | refine LeO.bind ?_ (fun _ => ?_)
  ·intro y0 y1 y2 y3 y4 y5 y6 y7
   unfold laws_FnExactResistances.j1
   repeat' first
   | (with_reducible exact ih0 _ _ _ _ _ _ _ _ _ _ _)
   | (with_reducible exact ih1 _ _ _ _ _ _ _ _)
   | (with_reducible exact ih2 _ _ _)
   | (with_reducible exact impl_Resistances.mono _ _ _ _ _)
   | (with_reducible exact laws_eqGraph.mono _ _ _ _ _)
   | (with_reducible exact laws_eqIntS.mono _ _ _)
   | (with_reducible exact laws_heldIntS.mono _ _ _)
   | (with_reducible exact laws_markIntS.mono _ _ _)
   | (with_reducible exact laws_toGraph.mono _ _ _)
   | (with_reducible exact spec_Resistances.mono _ _ _ _ _)
   | (with_reducible exact LeO.refl _)
   | (with_reducible exact LeO.none _)
   | (with_reducible refine LeO.ite ?_ ?_)
   | (with_reducible refine LeO.bind ?_ (fun _ => ?_))
   | exact ih0 _ _ _ _ _ _ _ _ _ _ _
   | exact ih1 _ _ _ _ _ _ _ _
   | exact ih2 _ _ _
   | exact impl_Resistances.mono _ _ _ _ _
   | exact laws_eqGraph.mono _ _ _ _ _
   | exact laws_eqIntS.mono _ _ _
   | exact laws_heldIntS.mono _ _ _
   | exact laws_markIntS.mono _ _ _
   | exact laws_toGraph.mono _ _ _
   | exact spec_Resistances.mono _ _ _ _ _
   | exact LeO.none _
   | refine LeO.ite ?_ ?_
   | refine LeO.bind ?_ (fun _ => ?_)
  ·intro y0 y1 y2
   unfold laws_FnExactResistances.j2
   repeat' first
   | (with_reducible exact ih0 _ _ _ _ _ _ _ _ _ _ _)
   | (with_reducible exact ih1 _ _ _ _ _ _ _ _)
   | (with_reducible exact ih2 _ _ _)
   | (with_reducible exact impl_Resistances.mono _ _ _ _ _)
   | (with_reducible exact laws_eqGraph.mono _ _ _ _ _)
   | (with_reducible exact laws_eqIntS.mono _ _ _)
   | (with_reducible exact laws_heldIntS.mono _ _ _)
   | (with_reducible exact laws_markIntS.mono _ _ _)
   | (with_reducible exact laws_toGraph.mono _ _ _)
   | (with_reducible exact spec_Resistances.mono _ _ _ _ _)
   | (with_reducible exact LeO.refl _)
   | (with_reducible exact LeO.none _)
   | (with_reducible refine LeO.ite ?_ ?_)
   | (with_reducible refine LeO.bind ?_ (fun _ => ?_))
   | exact ih0 _ _ _ _ _ _ _ _ _ _ _
   | exact ih1 _ _ _ _ _ _ _ _
   | exact ih2 _ _ _
   | exact impl_Resistances.mono _ _ _ _ _
   | exact laws_eqGraph.mono _ _ _ _ _
   | exact laws_eqIntS.mono _ _ _
   | exact laws_heldIntS.mono _ _ _
   | exact laws_markIntS.mono _ _ _
   | exact laws_toGraph.mono _ _ _
   | exact spec_Resistances.mono _ _ _ _ _
   | exact LeO.none _
   | refine LeO.ite ?_ ?_
   | refine LeO.bind ?_ (fun _ => ?_)
theorem laws_FnExactResistances.mono : ∀ a0 a1 a2 a3 k, LeO (laws_FnExactResistances.f k a0 a1 a2 a3) (laws_FnExactResistances.f (k + 1) a0 a1 a2 a3) := by
 intro a0 a1 a2 a3 k
 obtain ⟨ih0, ih1, ih2⟩ := laws_FnExactResistances.mono_l k
 unfold laws_FnExactResistances.f
 repeat' first
   | (with_reducible exact ih0 _ _ _ _ _ _ _ _ _ _ _)
   | (with_reducible exact ih1 _ _ _ _ _ _ _ _)
   | (with_reducible exact ih2 _ _ _)
   | (with_reducible exact impl_Resistances.mono _ _ _ _ _)
   | (with_reducible exact laws_eqGraph.mono _ _ _ _ _)
   | (with_reducible exact laws_eqIntS.mono _ _ _)
   | (with_reducible exact laws_heldIntS.mono _ _ _)
   | (with_reducible exact laws_markIntS.mono _ _ _)
   | (with_reducible exact laws_toGraph.mono _ _ _)
   | (with_reducible exact spec_Resistances.mono _ _ _ _ _)
   | (with_reducible exact LeO.refl _)
   | (with_reducible exact LeO.none _)
   | (with_reducible refine LeO.ite ?_ ?_)
   | (with_reducible refine LeO.bind ?_ (fun _ => ?_))
   | exact ih0 _ _ _ _ _ _ _ _ _ _ _
   | exact ih1 _ _ _ _ _ _ _ _
   | exact ih2 _ _ _
   | exact impl_Resistances.mono _ _ _ _ _
   | exact laws_eqGraph.mono _ _ _ _ _
   | exact laws_eqIntS.mono _ _ _
   | exact laws_heldIntS.mono _ _ _
   | exact laws_markIntS.mono _ _ _
   | exact laws_toGraph.mono _ _ _
   | exact spec_Resistances.mono _ _ _ _ _
   | exact LeO.none _
   | refine LeO.ite ?_ ?_
   | refine LeO.bind ?_ (fun _ => ?_)
set_option maxHeartbeats 8000000 in
set_option maxRecDepth 100000 in
theorem laws_FnExactResistances.calls (k : Nat) (a0_0 : Int) (A0_1 : Option Addr) (c0_1 : Nat) (l0_1 : List (S92)) (a1 : Int) (a2 : Bool) (r : Bool) (w : World) (hT : TabG w) (hr0_1 : Kd.C k92 w A0_1 l0_1.length l0_1) (hc0_1 : l0_1.length ≤ c0_1) (h : laws_FnExactResistances.f k a0_0 l0_1 a1 a2 = some r) :
  Calls Tryd.prog 10 #[.agg #[.int .i64 a0_0, .slice A0_1 l0_1.length c0_1], .int .i64 a1, .bool a2] w fun e w' => e = .returned (.bool r) ∧ Below w.heap.size w w' := by
 have hu24 := Tryd.underlying24
 have hu28 := Tryd.underlying28
 have HR0_1 := Aside0.mk hr0_1
 have HC0_1 := Aside0.mk hc0_1
 clear hr0_1 hc0_1
 have HB := Aside0.mk (Below.refl w.heap.size w)
 have HT := Aside0.mk hT
 clear hT
 have H : ((laws_szGraph.f a0_0 l0_1 1048576).bind fun t527 => (if t527 < 0 then (some true) else ((laws_toGraph.f k a0_0 l0_1).bind fun bt528 => ((spec_Resistances.f k bt528.1 bt528.2 a1 a2).bind fun bt532 => ((laws_toGraph.f k a0_0 l0_1).bind fun bt536 => ((impl_Resistances.f k bt536.1 bt536.2 a1 a2).bind fun bt541 => ((laws_eqIntS.f k bt541.1 bt532.1).bind fun t545 => (if t545 = true then (laws_FnExactResistances.j0 k a1 a2 bt532.1 bt532.2 bt541.1 bt541.2 (bt541.2 != bt532.2) a0_0 l0_1 bt536.1 bt536.2) else (laws_FnExactResistances.j0 k a1 a2 bt532.1 bt532.2 bt541.1 bt541.2 true a0_0 l0_1 bt536.1 bt536.2))))))))) = some r := h
 clear h
 replace H := Option.bind_eq_some_iff.mp H
 obtain ⟨t527, A40, H⟩ := H
 replace H : (if t527 < 0 then (some true) else ((laws_toGraph.f k a0_0 l0_1).bind fun bt528 => ((spec_Resistances.f k bt528.1 bt528.2 a1 a2).bind fun bt532 => ((laws_toGraph.f k a0_0 l0_1).bind fun bt536 => ((impl_Resistances.f k bt536.1 bt536.2 a1 a2).bind fun bt541 => ((laws_eqIntS.f k bt541.1 bt532.1).bind fun t545 => (if t545 = true then (laws_FnExactResistances.j0 k a1 a2 bt532.1 bt532.2 bt541.1 bt541.2 (bt541.2 != bt532.2) a0_0 l0_1 bt536.1 bt536.2) else (laws_FnExactResistances.j0 k a1 a2 bt532.1 bt532.2 bt541.1 bt541.2 true a0_0 l0_1 bt536.1 bt536.2)))))))) = some r := H
 have A4 := Aside0.mk A40
 clear A40
 by_cases c5 : t527 < 0
 ·rw [if_pos c5] at H
  have c5b0 : decide (t527 < 0) = true := decide_eq_true c5
  clear c5
  obtain rfl := Option.some.inj H
  go_enter Tryd.func10, Tryd.ntmps10
  go_wp2_with (first | ((with_reducible refine gate_dst (N := 3) rfl ?_);refine box_event ?hg (N := 3) ?hd (cs := #[.int .i64 a0_0, .slice A0_1 l0_1.length c0_1]) (t := 24) ?hr ?_;(case hd => rfl);(case hg => rfl);(case hr => first | (go_simp;done) | (go_simp;rfl));intro gb526 hg w6 hbox hb;have n0_ := Aside0.mk (below_step (by exact bB) hb);have n1_ := Aside0.mk (hbox);have n2_ := Aside0.mk ((by rw [hg];exact (below_size (by exact bB)) : w.heap.size ≤ gb526));have n3_ := Aside0.mk ((by rw [hg];exact (below_size (by exact bB)) : w.heap.size ≤ gb526));clear HB;have HB := n0_;have BK526 := n1_;have GW526 := n2_;have GE526 := n3_;clear n0_ n1_ n2_ n3_;clear hb hbox hg;have hcz7_0 : w6.cell? ⟨gb526, 0, none⟩ = some (.int .i64 a0_0) := (blk_cell BK526.out 0).trans rfl;have hcz7_1 : w6.cell? ⟨gb526, 1, none⟩ = some (.slice A0_1 l0_1.length c0_1) := (blk_cell BK526.out 1).trans rfl;have hfz7_0 := blk_frozen BK526.out 0;have hfz7_1 := blk_frozen BK526.out 1) | ((with_reducible refine gate_callee (f := 11) rfl ?_);refine goesL_ (some 20) rfl rfl Tryd.func11 (by kernel_rfl) rfl #[.agg #[.int .i64 a0_0, .slice A0_1 l0_1.length c0_1], .int .i64 1048576] rfl mM ?_;(with_reducible refine (laws_szGraph.calls a0_0 _ _ l0_1 1048576 t527 _ ?side1 ?side2 A4.out).mono ?_);(case side1 => exact cP (Kd.C_below HR0_1.out HB.out));(case side2 => exact HC0_1.out);rintro e w8 ⟨rfl, hb⟩;refine ⟨_, rfl, ?_⟩;have n0_ := Aside0.mk (blk_below (g := gb526) (o := .cells #[.int .i64 a0_0, .slice A0_1 l0_1.length c0_1] 24 (0, 0)) (by exact kP BK526.out) hb);have n1_ := Aside0.mk (below_step (by exact bB) hb);clear BK526;clear HB;have BK526 := n0_;have HB := n1_;clear n0_ n1_;(try clear hb);(try clear hb2);(try clear hk);(try clear hi)))
  go_ret
  exact ⟨by first | rfl | (simp [errW_none, errW_some] <;> rfl) | (simp [*, errW_none, errW_some] <;> rfl), by exact bB⟩
 ·rw [if_neg c5] at H
  have c5b0 : decide (t527 < 0) = false := decide_eq_false c5
  clear c5
  replace H := Option.bind_eq_some_iff.mp H
  obtain ⟨⟨t528, t529⟩, A90, H⟩ := H
  replace H : ((spec_Resistances.f k t528 t529 a1 a2).bind fun bt532 => ((laws_toGraph.f k a0_0 l0_1).bind fun bt536 => ((impl_Resistances.f k bt536.1 bt536.2 a1 a2).bind fun bt541 => ((laws_eqIntS.f k bt541.1 bt532.1).bind fun t545 => (if t545 = true then (laws_FnExactResistances.j0 k a1 a2 bt532.1 bt532.2 bt541.1 bt541.2 (bt541.2 != bt532.2) a0_0 l0_1 bt536.1 bt536.2) else (laws_FnExactResistances.j0 k a1 a2 bt532.1 bt532.2 bt541.1 bt541.2 true a0_0 l0_1 bt536.1 bt536.2)))))) = some r := H
  have A9 := Aside0.mk A90
  clear A90
  replace H := Option.bind_eq_some_iff.mp H
  obtain ⟨⟨t532, t535⟩, A100, H⟩ := H
  replace H : ((laws_toGraph.f k a0_0 l0_1).bind fun bt536 => ((impl_Resistances.f k bt536.1 bt536.2 a1 a2).bind fun bt541 => ((laws_eqIntS.f k bt541.1 t532).bind fun t545 => (if t545 = true then (laws_FnExactResistances.j0 k a1 a2 t532 t535 bt541.1 bt541.2 (bt541.2 != t535) a0_0 l0_1 bt536.1 bt536.2) else (laws_FnExactResistances.j0 k a1 a2 t532 t535 bt541.1 bt541.2 true a0_0 l0_1 bt536.1 bt536.2))))) = some r := H
  have A10 := Aside0.mk A100
  clear A100
  replace H := Option.bind_eq_some_iff.mp H
  obtain ⟨⟨t536, t537⟩, A110, H⟩ := H
  replace H : ((impl_Resistances.f k t536 t537 a1 a2).bind fun bt541 => ((laws_eqIntS.f k bt541.1 t532).bind fun t545 => (if t545 = true then (laws_FnExactResistances.j0 k a1 a2 t532 t535 bt541.1 bt541.2 (bt541.2 != t535) a0_0 l0_1 t536 t537) else (laws_FnExactResistances.j0 k a1 a2 t532 t535 bt541.1 bt541.2 true a0_0 l0_1 t536 t537)))) = some r := H
  have A11 := Aside0.mk A110
  clear A110
  replace H := Option.bind_eq_some_iff.mp H
  obtain ⟨⟨t541, t544⟩, A120, H⟩ := H
  replace H : ((laws_eqIntS.f k t541 t532).bind fun t545 => (if t545 = true then (laws_FnExactResistances.j0 k a1 a2 t532 t535 t541 t544 (t544 != t535) a0_0 l0_1 t536 t537) else (laws_FnExactResistances.j0 k a1 a2 t532 t535 t541 t544 true a0_0 l0_1 t536 t537))) = some r := H
  have A12 := Aside0.mk A120
  clear A120
  have HC13 := Aside0.mk H
  clear H
  go_enter Tryd.func10, Tryd.ntmps10
  go_upto_region 8 with (first | ((with_reducible refine gate_dst (N := 3) rfl ?_);refine box_event ?hg (N := 3) ?hd (cs := #[.int .i64 a0_0, .slice A0_1 l0_1.length c0_1]) (t := 24) ?hr ?_;(case hd => rfl);(case hg => rfl);(case hr => first | (go_simp;done) | (go_simp;rfl));intro gb526 hg w14 hbox hb;have n0_ := Aside0.mk (below_step (by exact bB) hb);have n1_ := Aside0.mk (hbox);have n2_ := Aside0.mk ((by rw [hg];exact (below_size (by exact bB)) : w.heap.size ≤ gb526));have n3_ := Aside0.mk ((by rw [hg];exact (below_size (by exact bB)) : w.heap.size ≤ gb526));clear HB;have HB := n0_;have BK526 := n1_;have GW526 := n2_;have GE526 := n3_;clear n0_ n1_ n2_ n3_;clear hb hbox hg;have hcz15_0 : w14.cell? ⟨gb526, 0, none⟩ = some (.int .i64 a0_0) := (blk_cell BK526.out 0).trans rfl;have hcz15_1 : w14.cell? ⟨gb526, 1, none⟩ = some (.slice A0_1 l0_1.length c0_1) := (blk_cell BK526.out 1).trans rfl;have hfz15_0 := blk_frozen BK526.out 0;have hfz15_1 := blk_frozen BK526.out 1) | ((with_reducible refine gate_callee (f := 11) rfl ?_);refine goesL_ (some 20) rfl rfl Tryd.func11 (by kernel_rfl) rfl #[.agg #[.int .i64 a0_0, .slice A0_1 l0_1.length c0_1], .int .i64 1048576] rfl mM ?_;(with_reducible refine (laws_szGraph.calls a0_0 _ _ l0_1 1048576 t527 _ ?side1 ?side2 A4.out).mono ?_);(case side1 => exact cP (Kd.C_below HR0_1.out HB.out));(case side2 => exact HC0_1.out);rintro e w16 ⟨rfl, hb⟩;refine ⟨_, rfl, ?_⟩;have n0_ := Aside0.mk (blk_below (g := gb526) (o := .cells #[.int .i64 a0_0, .slice A0_1 l0_1.length c0_1] 24 (0, 0)) (by exact kP BK526.out) hb);have n1_ := Aside0.mk (below_step (by exact bB) hb);clear BK526;clear HB;have BK526 := n0_;have HB := n1_;clear n0_ n1_;(try clear hb);(try clear hb2);(try clear hk);(try clear hi);have hcz17_0 : w16.cell? ⟨gb526, 0, none⟩ = some (.int .i64 a0_0) := (blk_cell BK526.out 0).trans rfl;have hcz17_1 : w16.cell? ⟨gb526, 1, none⟩ = some (.slice A0_1 l0_1.length c0_1) := (blk_cell BK526.out 1).trans rfl;have hfz17_0 := blk_frozen BK526.out 0;have hfz17_1 := blk_frozen BK526.out 1) | ((with_reducible refine gate_callee (f := 13) rfl ?_);refine goesL_ (some 25) rfl rfl Tryd.func13 (by kernel_rfl) rfl #[.agg #[.int .i64 a0_0, .slice A0_1 l0_1.length c0_1]] rfl mM ?_;(with_reducible refine (laws_toGraph.calls k a0_0 _ _ l0_1 t528 t529 _ ?side1 ?side2 A9.out).mono ?_);(case side1 => exact cP (Kd.C_below HR0_1.out HB.out));(case side2 => exact HC0_1.out);rintro e w18 ⟨v530, rfl, ho0, hb⟩;refine ⟨_, rfl, ?_⟩;have n0_ := Aside0.mk (Kd.R_lower ho0 (below_size (by exact bB)));have n1_ := Aside0.mk (blk_below (g := gb526) (o := .cells #[.int .i64 a0_0, .slice A0_1 l0_1.length c0_1] 24 (0, 0)) (by exact kP BK526.out) hb);have n2_ := Aside0.mk (below_step (by exact bB) hb);clear BK526;clear HB;have HO531 := n0_;have BK526 := n1_;have HB := n2_;clear n0_ n1_ n2_;(try clear hb);(try clear hb2);(try clear hk);(try clear hi);(try clear ho0);obtain ⟨Ao19, co19, eo19⟩ := Kd.R_slice HO531.out;subst eo19) | ((with_reducible refine gate_callee (f := 38) rfl ?_);refine goesL_ (some 28) rfl rfl Tryd.func38 (by kernel_rfl) rfl #[.agg #[.int .i64 t528, .slice Ao19 t529.length co19], .int .i64 a1, .bool a2] rfl mM ?_;(with_reducible refine (spec_Resistances.calls k t528 _ _ t529 a1 a2 t532 t535 _ ?side1 ?side2 A10.out).mono ?_);(case side1 => exact cP (Kd.R_reads' HO531.out).2.2);(case side2 => exact (Kd.R_reads' HO531.out).2.1);rintro e w20 ⟨v533, rfl, ho0, hb⟩;refine ⟨_, rfl, ?_⟩;have n0_ := Aside0.mk (Kd.R_below (by exact rP HO531.out) hb);have n1_ := Aside0.mk (Kd.R_lower ho0 (below_size (by exact bB)));have n2_ := Aside0.mk (blk_below (g := gb526) (o := .cells #[.int .i64 a0_0, .slice A0_1 l0_1.length c0_1] 24 (0, 0)) (by exact kP BK526.out) hb);have n3_ := Aside0.mk (below_step (by exact bB) hb);clear HO531;clear BK526;clear HB;have HO531 := n0_;have HO534 := n1_;have BK526 := n2_;have HB := n3_;clear n0_ n1_ n2_ n3_;(try clear hb);(try clear hb2);(try clear hk);(try clear hi);(try clear ho0);have hcz21_0 : w20.cell? ⟨gb526, 0, none⟩ = some (.int .i64 a0_0) := (blk_cell BK526.out 0).trans rfl;have hcz21_1 : w20.cell? ⟨gb526, 1, none⟩ = some (.slice A0_1 l0_1.length c0_1) := (blk_cell BK526.out 1).trans rfl;have hfz21_0 := blk_frozen BK526.out 0;have hfz21_1 := blk_frozen BK526.out 1) | ((with_reducible refine gate_callee (f := 13) rfl ?_);refine goesL_ (some 32) rfl rfl Tryd.func13 (by kernel_rfl) rfl #[.agg #[.int .i64 a0_0, .slice A0_1 l0_1.length c0_1]] rfl mM ?_;(with_reducible refine (laws_toGraph.calls k a0_0 _ _ l0_1 t536 t537 _ ?side1 ?side2 A11.out).mono ?_);(case side1 => exact cP (Kd.C_below HR0_1.out HB.out));(case side2 => exact HC0_1.out);rintro e w22 ⟨v538, rfl, ho0, hb⟩;refine ⟨_, rfl, ?_⟩;have n0_ := Aside0.mk (Kd.R_elder' (by exact rP HO531.out) (Kd.R_base ho0) hb);have n1_ := Aside0.mk (Kd.R_below (by exact rP HO534.out) hb);have n2_ := Aside0.mk (Kd.R_lower (Kd.R_new' ho0 (Kd.R_lt (by exact rP HO531.out))) (below_size (by exact bB)));have n3_ := Aside0.mk (blk_below (g := gb526) (o := .cells #[.int .i64 a0_0, .slice A0_1 l0_1.length c0_1] 24 (0, 0)) (by exact kP BK526.out) hb);have n4_ := Aside0.mk (below_step (by exact bB) hb);clear HO531;clear HO534;clear BK526;clear HB;have HO531 := n0_;have HO534 := n1_;have HO539 := n2_;have BK526 := n3_;have HB := n4_;clear n0_ n1_ n2_ n3_ n4_;(try clear hb);(try clear hb2);(try clear hk);(try clear hi);(try clear ho0)) | ((with_reducible refine gate_dst (N := 10) rfl ?_);refine box_event ?hg (N := 10) ?hd (cs := #[.int .i64 0, .slice none 0 0]) (t := 28) ?hr ?_;(case hd => rfl);(case hg => rfl);(case hr => first | (go_simp;done) | (go_simp;rfl));intro gb540 hg w23 hbox hb;have n0_ := Aside0.mk (Kd.R_below (by exact rP HO531.out) hb);have n1_ := Aside0.mk (Kd.R_below (by exact rP HO534.out) hb);have n2_ := Aside0.mk (Kd.R_below (by exact rP HO539.out) hb);have n3_ := Aside0.mk (blk_below (g := gb526) (o := .cells #[.int .i64 a0_0, .slice A0_1 l0_1.length c0_1] 24 (0, 0)) (by exact kP BK526.out) hb);have n4_ := Aside0.mk (below_step (by exact bB) hb);have n5_ := Aside0.mk (hbox);have n6_ := Aside0.mk ((by rw [hg];exact (below_size (by exact bB)) : w.heap.size ≤ gb540));have n7_ := Aside0.mk ((by rw [hg];exact (below_size (by exact bB)) : w.heap.size ≤ gb540));have n8_ := Aside0.mk ((by rw [hg];exact Nat.ne_of_lt (blk_lt (g := gb526) (o := .cells #[.int .i64 a0_0, .slice A0_1 l0_1.length c0_1] 24 (0, 0)) (by exact kP BK526.out)) : gb526 ≠ gb540));have n9_ := Aside0.mk ((by rw [hg];exact Nat.ne_of_gt (blk_lt (g := gb526) (o := .cells #[.int .i64 a0_0, .slice A0_1 l0_1.length c0_1] 24 (0, 0)) (by exact kP BK526.out)) : gb540 ≠ gb526));clear HO531;clear HO534;clear HO539;clear BK526;clear HB;have HO531 := n0_;have HO534 := n1_;have HO539 := n2_;have BK526 := n3_;have HB := n4_;have BK540 := n5_;have GW540 := n6_;have GE540 := n7_;have NB526_540 := n8_;have NB540_526 := n9_;clear n0_ n1_ n2_ n3_ n4_ n5_ n6_ n7_ n8_ n9_;clear hb hbox hg;have hnb24 := NB540_526.out;have hnc24 := NB526_540.out;have hcz25_0 : w23.cell? ⟨gb540, 0, none⟩ = some (.int .i64 0) := (blk_cell BK540.out 0).trans rfl;have hcz25_1 : w23.cell? ⟨gb540, 1, none⟩ = some (.slice none 0 0) := (blk_cell BK540.out 1).trans rfl;have hfz25_0 := blk_frozen BK540.out 0;have hfz25_1 := blk_frozen BK540.out 1;obtain ⟨Ao26, co26, eo26⟩ := Kd.R_slice HO539.out;subst eo26) | ((with_reducible refine gate_callee (f := 39) rfl ?_);refine goesL_ (some 37) rfl rfl Tryd.func39 (by kernel_rfl) rfl #[.agg #[.int .i64 t536, .slice Ao26 t537.length co26], .int .i64 a1, .bool a2] rfl mM ?_;(with_reducible refine (impl_Resistances.calls k t536 _ _ t537 a1 a2 t541 t544 _ ?sideT ?side1 ?side2 A12.out).mono ?_);(case sideT => exact tabG_below HT.out (by exact bB));(case side1 => refine (Kd.R_reads' (e := 92) (base := w.heap.size) (ok := fun k_ => (True ∧ some k_ ≠ (.slice Ao19 t529.length co19 : Value).ownBlock)) (n := t537.length) (c := co26) ?_).2.2;exact (by refine rP ?_;exact (Kd.R_mono (Kd.R_far (p := ⟨gb540, 1, none⟩) (Kd.R_far (p := ⟨gb540, 0, none⟩) (Kd.R_types HO539.out BK540.out (by decide)) (fun _ hk => hk.2) (.int .i64 t536)) (fun _ hk => hk.2) (.slice Ao26 t537.length co26)) (fun _ h_ => h_.1))));(case side2 => exact (Kd.R_reads' HO539.out).2.1);rintro e w27 ⟨v542, rfl, ho0, hb⟩;refine ⟨_, rfl, ?_⟩;have n0_ := Aside0.mk (Kd.R_below (by exact rP ((Kd.R_mono (Kd.R_far (p := ⟨gb540, 1, none⟩) (Kd.R_far (p := ⟨gb540, 0, none⟩) (Kd.R_types HO531.out BK540.out (by decide)) (fun _ hk => hk.2) (.int .i64 t536)) (fun _ hk => hk.2) (.slice Ao26 t537.length co26)) (fun _ h_ => h_.1)))) hb);have n1_ := Aside0.mk (Kd.R_elder' (by exact rP ((Kd.R_mono (Kd.R_far (p := ⟨gb540, 1, none⟩) (Kd.R_far (p := ⟨gb540, 0, none⟩) (Kd.R_types HO534.out BK540.out (by decide)) (fun _ hk => hk.2) (.int .i64 t536)) (fun _ hk => hk.2) (.slice Ao26 t537.length co26)) (fun _ h_ => h_.1)))) (Kd.R_base ho0) hb);have n2_ := Aside0.mk (Kd.R_below (by exact rP ((Kd.R_mono (Kd.R_far (p := ⟨gb540, 1, none⟩) (Kd.R_far (p := ⟨gb540, 0, none⟩) (Kd.R_types HO539.out BK540.out (by decide)) (fun _ hk => hk.2) (.int .i64 t536)) (fun _ hk => hk.2) (.slice Ao26 t537.length co26)) (fun _ h_ => h_.1)))) hb);have n3_ := Aside0.mk (Kd.R_lower (Kd.R_new' ho0 (Kd.R_lt (by exact rP ((Kd.R_mono (Kd.R_far (p := ⟨gb540, 1, none⟩) (Kd.R_far (p := ⟨gb540, 0, none⟩) (Kd.R_types HO534.out BK540.out (by decide)) (fun _ hk => hk.2) (.int .i64 t536)) (fun _ hk => hk.2) (.slice Ao26 t537.length co26)) (fun _ h_ => h_.1)))))) (below_size (by exact bB)));have n4_ := Aside0.mk (blk_below (g := gb526) (o := .cells #[.int .i64 a0_0, .slice A0_1 l0_1.length c0_1] 24 (0, 0)) (by refine kP ?_;refine blk_far ?_ NB526_540.out _;refine kP ?_;refine blk_far ?_ NB526_540.out _;exact kP BK526.out) hb);have n5_ := Aside0.mk (blk_below (g := gb540) (o := .cells #[.int .i64 t536, .slice Ao26 t537.length co26] 28 (0, 0)) (by refine kP ?_;refine blk_put (cs := #[.int .i64 t536, .slice none 0 0]) ?_ 1 _ rfl;refine kP ?_;refine blk_put (cs := #[.int .i64 0, .slice none 0 0]) ?_ 0 _ rfl;exact kP BK540.out) hb);have n6_ := Aside0.mk (below_step (by exact bB) hb);clear HO531;clear HO534;clear HO539;clear BK526;clear BK540;clear HB;have HO531 := n0_;have HO534 := n1_;have HO539 := n2_;have HO543 := n3_;have BK526 := n4_;have BK540 := n5_;have HB := n6_;clear n0_ n1_ n2_ n3_ n4_ n5_ n6_;(try clear hb);(try clear hb2);(try clear hk);(try clear hi);(try clear ho0)))
  (try simp only [Act.put, List.setIfInBounds_toArray, List.set_cons_zero, List.set_cons_succ])
  go_cut [48] (fun v48 wc => ∃ (kq : Nat) (x48_12 : Bool), v48 = .bool x48_12 ∧ Aside0 (laws_FnExactResistances.j0 kq a1 a2 t532 t535 t541 t544 x48_12 a0_0 l0_1 t536 t537 = some r) ∧ Aside0 (kq ≤ k) ∧ Aside0 (Kd.R (Kd.int .i64) 3 wc w.heap.size (fun k_ => some k_ ≠ (v542 : Value).ownBlock) v533 t532) ∧ Aside0 (Kd.R (Kd.int .i64) 3 wc w.heap.size (fun k_ => some k_ ≠ (v533 : Value).ownBlock) v542 t541) ∧ Aside0 (Kd.R k92 92 wc w.heap.size (fun _ => True) (.slice Ao26 t537.length co26) t537) ∧ Aside0 (wc.heap[gb526]? = some (.cells #[.int .i64 a0_0, (.slice A0_1 l0_1.length c0_1)] 24 (0, 0))) ∧ Aside0 (wc.heap[gb540]? = some (.cells #[.int .i64 t536, (.slice Ao26 t537.length co26)] 28 (0, 0))) ∧ Aside0 (Below w.heap.size w wc))
  case first =>
   have H := HC13.out
   clear HC13
   replace H := Option.bind_eq_some_iff.mp H
   obtain ⟨t545, A280, H⟩ := H
   replace H : (if t545 = true then (laws_FnExactResistances.j0 k a1 a2 t532 t535 t541 t544 (t544 != t535) a0_0 l0_1 t536 t537) else (laws_FnExactResistances.j0 k a1 a2 t532 t535 t541 t544 true a0_0 l0_1 t536 t537)) = some r := H
   have A28 := Aside0.mk A280
   clear A280
   by_cases c29 : t545 = true
   ·subst c29
    have H1 : (laws_FnExactResistances.j0 k a1 a2 t532 t535 t541 t544 (t544 != t535) a0_0 l0_1 t536 t537) = some r := by rw [if_pos rfl] at H;exact H
    clear H
    have H := H1
    clear H1
    have H' := Aside0.mk H
    clear H
    obtain ⟨Ao30, co30, eo30⟩ := Kd.R_slice HO543.out
    subst eo30
    obtain ⟨Ao31, co31, eo31⟩ := Kd.R_slice HO534.out
    subst eo31
    go_wp2_with (first | ((with_reducible refine gate_callee (f := 19) rfl ?_);refine goesL_ (some 42) rfl rfl Tryd.func19 (by kernel_rfl) rfl #[.slice Ao30 t541.length co30, .slice Ao31 t532.length co31] rfl mM ?_;(with_reducible refine (laws_eqIntS.calls k _ _ t541 _ _ t532 true _ ?side1 ?side2 ?side3 ?side4 A28.out).mono ?_);(case side1 => exact cP (Kd.R_reads' HO543.out).2.2);(case side2 => exact (Kd.R_reads' HO543.out).2.1);(case side3 => exact cP (Kd.R_reads' HO534.out).2.2);(case side4 => exact (Kd.R_reads' HO534.out).2.1);rintro e w' ⟨rfl, ⟨nd, rfl⟩⟩;refine ⟨_, rfl, ?_⟩))
    go_meet
    case rel => exact ⟨_, ((t544 != t535)), (by first | rfl | (simp;done) | (simp [*];done)), H', ⟨by first | omega | exact Nat.le_refl _⟩, ⟨by refine rP ?_;exact Kd.R_mono HO534.out (fun _ hk => hk.2)⟩, ⟨by refine rP ?_;exact Kd.R_mono HO543.out (fun _ hk => hk.2)⟩, ⟨by refine rP ?_;exact Kd.R_mono HO539.out (fun _ hk => trivial)⟩, ⟨by exact kP BK526.out⟩, ⟨by exact kP BK540.out⟩, ⟨by exact bB⟩⟩
   ·replace c29 := Bool.eq_false_iff.mpr c29
    subst c29
    have H1 : (laws_FnExactResistances.j0 k a1 a2 t532 t535 t541 t544 true a0_0 l0_1 t536 t537) = some r := by rw [if_neg (show ¬ (false = true) by decide)] at H;exact H
    clear H
    have H := H1
    clear H1
    have H' := Aside0.mk H
    clear H
    obtain ⟨Ao32, co32, eo32⟩ := Kd.R_slice HO543.out
    subst eo32
    obtain ⟨Ao33, co33, eo33⟩ := Kd.R_slice HO534.out
    subst eo33
    go_wp2_with (first | ((with_reducible refine gate_callee (f := 19) rfl ?_);refine goesL_ (some 42) rfl rfl Tryd.func19 (by kernel_rfl) rfl #[.slice Ao32 t541.length co32, .slice Ao33 t532.length co33] rfl mM ?_;(with_reducible refine (laws_eqIntS.calls k _ _ t541 _ _ t532 false _ ?side1 ?side2 ?side3 ?side4 A28.out).mono ?_);(case side1 => exact cP (Kd.R_reads' HO543.out).2.2);(case side2 => exact (Kd.R_reads' HO543.out).2.1);(case side3 => exact cP (Kd.R_reads' HO534.out).2.2);(case side4 => exact (Kd.R_reads' HO534.out).2.1);rintro e w' ⟨rfl, ⟨nd, rfl⟩⟩;refine ⟨_, rfl, ?_⟩))
    go_meet
    case rel => exact ⟨_, (true), (by first | rfl | (simp;done) | (simp [*];done)), H', ⟨by first | omega | exact Nat.le_refl _⟩, ⟨by refine rP ?_;exact Kd.R_mono HO534.out (fun _ hk => hk.2)⟩, ⟨by refine rP ?_;exact Kd.R_mono HO543.out (fun _ hk => hk.2)⟩, ⟨by refine rP ?_;exact Kd.R_mono HO539.out (fun _ hk => trivial)⟩, ⟨by exact kP BK526.out⟩, ⟨by exact kP BK540.out⟩, ⟨by exact bB⟩⟩
  case rest =>
   clear HC13
   try clear c1
   try clear c2
   try clear p2
   try clear c3
   try clear c5
   try clear c5b0
   try clear c10
   try clear c11
   try clear c13
   try clear c19
   try clear c24
   try clear c29
   try clear hcz15_0
   try clear hcz15_1
   try clear hcz17_0
   try clear hcz17_1
   try clear hcz21_0
   try clear hcz21_1
   try clear hcz25_0
   try clear hcz25_1
   try clear hcz7_0
   try clear hcz7_1
   try clear hfz15_0
   try clear hfz15_1
   try clear hfz17_0
   try clear hfz17_1
   try clear hfz21_0
   try clear hfz21_1
   try clear hfz25_0
   try clear hfz25_1
   try clear hfz7_0
   try clear hfz7_1
   obtain ⟨kq, x48_12, rfl, HA, HJ12, HO_8, HO_11, HO_541001, BK526, BK540, HB⟩ := hcut
   cases kq with
   | zero => exact absurd HA.out (by simp [laws_FnExactResistances.j0])
   | succ kj12 =>
    have H := HA.out
    clear HA
    simp only [laws_FnExactResistances.j0] at H
    by_cases c34 : x48_12 = true
    ·subst c34
     have H1 : (some false) = some r := by rw [if_pos rfl] at H;exact H
     clear H
     have H := H1
     clear H1
     obtain rfl := Option.some.inj H
     go_wp2
     go_ret
     exact ⟨by first | rfl | (simp [errW_none, errW_some] <;> rfl) | (simp [*, errW_none, errW_some] <;> rfl), by exact bB⟩
    ·replace c34 := Bool.eq_false_iff.mpr c34
     subst c34
     have H1 : ((laws_toGraph.f kj12 a0_0 l0_1).bind fun bt546 => ((laws_eqGraph.f kj12 t536 t537 bt546.1 bt546.2).bind fun t550 => (if t550 = true then ((laws_markGraph.f t536 t537 1).bind fun bt551 => (if bt551.1 < 0 then (laws_FnExactResistances.j1 kj12 a1 a2 t532 t535 t541 true a0_0 l0_1) else ((laws_eqIntS.f kj12 t541 t532).bind fun t553 => (if t553 = true then (laws_FnExactResistances.j1 kj12 a1 a2 t532 t535 t541 (t544 != t535) a0_0 l0_1) else (laws_FnExactResistances.j1 kj12 a1 a2 t532 t535 t541 true a0_0 l0_1))))) else (some false)))) = some r := by rw [if_neg (show ¬ (false = true) by decide)] at H;exact H
     clear H
     have H := H1
     clear H1
     replace H := Option.bind_eq_some_iff.mp H
     obtain ⟨⟨t546, t547⟩, A350, H⟩ := H
     replace H : ((laws_eqGraph.f kj12 t536 t537 t546 t547).bind fun t550 => (if t550 = true then ((laws_markGraph.f t536 t537 1).bind fun bt551 => (if bt551.1 < 0 then (laws_FnExactResistances.j1 kj12 a1 a2 t532 t535 t541 true a0_0 l0_1) else ((laws_eqIntS.f kj12 t541 t532).bind fun t553 => (if t553 = true then (laws_FnExactResistances.j1 kj12 a1 a2 t532 t535 t541 (t544 != t535) a0_0 l0_1) else (laws_FnExactResistances.j1 kj12 a1 a2 t532 t535 t541 true a0_0 l0_1))))) else (some false))) = some r := H
     have A35 := Aside0.mk A350
     clear A350
     replace H := Option.bind_eq_some_iff.mp H
     obtain ⟨t550, A360, H⟩ := H
     replace H : (if t550 = true then ((laws_markGraph.f t536 t537 1).bind fun bt551 => (if bt551.1 < 0 then (laws_FnExactResistances.j1 kj12 a1 a2 t532 t535 t541 true a0_0 l0_1) else ((laws_eqIntS.f kj12 t541 t532).bind fun t553 => (if t553 = true then (laws_FnExactResistances.j1 kj12 a1 a2 t532 t535 t541 (t544 != t535) a0_0 l0_1) else (laws_FnExactResistances.j1 kj12 a1 a2 t532 t535 t541 true a0_0 l0_1))))) else (some false)) = some r := H
     have A36 := Aside0.mk A360
     clear A360
     by_cases c37 : t550 = true
     ·subst c37
      have H1 : ((laws_markGraph.f t536 t537 1).bind fun bt551 => (if bt551.1 < 0 then (laws_FnExactResistances.j1 kj12 a1 a2 t532 t535 t541 true a0_0 l0_1) else ((laws_eqIntS.f kj12 t541 t532).bind fun t553 => (if t553 = true then (laws_FnExactResistances.j1 kj12 a1 a2 t532 t535 t541 (t544 != t535) a0_0 l0_1) else (laws_FnExactResistances.j1 kj12 a1 a2 t532 t535 t541 true a0_0 l0_1))))) = some r := by rw [if_pos rfl] at H;exact H
      clear H
      have H := H1
      clear H1
      replace H := Option.bind_eq_some_iff.mp H
      obtain ⟨⟨t551, t552⟩, A380, H⟩ := H
      replace H : (if t551 < 0 then (laws_FnExactResistances.j1 kj12 a1 a2 t532 t535 t541 true a0_0 l0_1) else ((laws_eqIntS.f kj12 t541 t532).bind fun t553 => (if t553 = true then (laws_FnExactResistances.j1 kj12 a1 a2 t532 t535 t541 (t544 != t535) a0_0 l0_1) else (laws_FnExactResistances.j1 kj12 a1 a2 t532 t535 t541 true a0_0 l0_1)))) = some r := H
      have A38 := Aside0.mk A380
      clear A380
      have HC39 := Aside0.mk H
      clear H
      try go_wp2
      have n0_ := Aside0.mk (Kd.R_drew HO_8.out)
      have n1_ := Aside0.mk (Kd.R_drew HO_11.out)
      have n2_ := Aside0.mk (Kd.R_drew HO_541001.out)
      have n3_ := Aside0.mk (blk_drew BK526.out)
      have n4_ := Aside0.mk (blk_drew BK540.out)
      have n5_ := Aside0.mk (below_drew1 HB.out)
      clear HO_8
      clear HO_11
      clear HO_541001
      clear BK526
      clear BK540
      clear HB
      have HO_8 := n0_
      have HO_11 := n1_
      have HO_541001 := n2_
      have BK526 := n3_
      have BK540 := n4_
      have HB := n5_
      clear n0_ n1_ n2_ n3_ n4_ n5_
      refine start_ (n := 5) (S := fun w' => w'.cell? ⟨gb540, 0, none⟩ = some (.int .i64 t536) ∧ w'.cell? ⟨gb540, 1, none⟩ = some (.slice Ao26 t537.length co26) ∧ w'.cell? ⟨gb526, 0, none⟩ = some (.int .i64 a0_0) ∧ w'.cell? ⟨gb526, 1, none⟩ = some (.slice A0_1 l0_1.length c0_1)) (ds := []) #[false,false,false,false,false] (by kernel_rfl) rfl rfl ⟨(blk_cell BK540.out 0).trans rfl, (blk_cell BK540.out 1).trans rfl, (blk_cell BK526.out 0).trans rfl, (blk_cell BK526.out 1).trans rfl⟩ (fun hHeld => ?_)
      generalize wc.drew = w40 at HO_8 HO_11 HO_541001 BK526 BK540 HB hHeld ⊢
      refine take_ (i := 0) (N := some 49) (v := ?_) (a' := ?_) #[true,false,false,false,false] rfl rfl (by kernel_rfl) (fun _ _ _ h => h) (Or.inl ⟨by rfl, ?_⟩) hHeld ?_ ?_
      rotate_left
      ·rintro w' ⟨s0, s1, s2, s3⟩
       go_simp
       with_reducible rfl
      rotate_left
      ·simp only [Act.put, List.setIfInBounds_toArray, List.set_cons_zero, List.set_cons_succ, i64_w, i32_w]
       rfl
      refine take_ (i := 1) (N := some 50) (v := ?_) (a' := ?_) #[true,true,false,false,false] rfl rfl (by kernel_rfl) (fun _ _ _ h => h) (Or.inl ⟨by rfl, ?_⟩) hHeld ?_ ?_
      rotate_left
      ·rintro w' ⟨s0, s1, s2, s3⟩
       go_simp
       with_reducible rfl
      rotate_left
      ·simp only [Act.put, List.setIfInBounds_toArray, List.set_cons_zero, List.set_cons_succ, i64_w, i32_w]
       rfl
      refine one_ (i := 2) (N := some 51) #[true,true,true,false,false] rfl rfl (by kernel_rfl) (by decide) (fun K hK => ?_)
      refine goes_ Tryd.func13 (by kernel_rfl) rfl #[.agg #[.int .i64 a0_0, .slice A0_1 l0_1.length c0_1]] (by rfl) rfl rfl mM ?_
      with_reducible refine (laws_toGraph.calls kj12 a0_0 _ _ l0_1 t546 t547 _ ?side1 ?side2 A35.out).mono ?_
      (case side1 => exact cP (Kd.C_below HR0_1.out HB.out))
      (case side2 => exact HC0_1.out)
      rintro e w41 ⟨v548, rfl, ho0, hb⟩
      refine ⟨_, rfl, ?_⟩
      have n0_ := Aside0.mk (Kd.R_below (by exact rP HO_8.out) hb)
      have n1_ := Aside0.mk (Kd.R_below (by exact rP HO_11.out) hb)
      have n2_ := Aside0.mk (Kd.R_elder' (by exact rP HO_541001.out) (Kd.R_base ho0) hb)
      have n3_ := Aside0.mk (Kd.R_lower (Kd.R_new' ho0 (Kd.R_lt (by exact rP HO_541001.out))) (below_size (by exact bB)))
      have n4_ := Aside0.mk (blk_below (g := gb526) (o := .cells #[.int .i64 a0_0, .slice A0_1 l0_1.length c0_1] 24 (0, 0)) (by exact kP BK526.out) hb)
      have n5_ := Aside0.mk (blk_below (g := gb540) (o := .cells #[.int .i64 t536, .slice Ao26 t537.length co26] 28 (0, 0)) (by exact kP BK540.out) hb)
      have n6_ := Aside0.mk (below_step (by exact bB) hb)
      clear HO_8
      clear HO_11
      clear HO_541001
      clear BK526
      clear BK540
      clear HB
      have HO_8 := n0_
      have HO_11 := n1_
      have HO_541001 := n2_
      have HO549 := n3_
      have BK526 := n4_
      have BK540 := n5_
      have HB := n6_
      clear n0_ n1_ n2_ n3_ n4_ n5_ n6_
      (try clear hb)
      (try clear hb2)
      (try clear hk)
      (try clear hi)
      (try clear ho0)
      obtain ⟨Ao42, co42, eo42⟩ := Kd.R_slice HO549.out
      (first | subst eo42 | (injection eo42 with f1_ f2_ f3_;have f4_ := f1_.symm;have f5_ := f3_.symm;clear f1_ f2_ f3_;subst f4_;subst f5_))
      refine hK.out _ _ ⟨(blk_cell BK540.out 0).trans rfl, (blk_cell BK540.out 1).trans rfl, (blk_cell BK526.out 0).trans rfl, (blk_cell BK526.out 1).trans rfl⟩ (fun hHeld => ?_)
      clear hK K
      refine norm_ (a' := ?_) ?_ ?_
      rotate_left
      ·show Act.put _ (some 51) _ = _
       simp only [Act.put, List.setIfInBounds_toArray, List.set_cons_zero, List.set_cons_succ, i64_w, i32_w]
       rfl
      refine one_ (i := 3) (N := some 52) #[true,true,true,true,false] rfl rfl (by kernel_rfl) (by decide) (fun K hK => ?_)
      refine goes_ Tryd.func15 (by kernel_rfl) rfl #[.agg #[.int .i64 t536, .slice Ao26 t537.length co26], .agg #[.int .i64 t546, .slice Ao42 t547.length co42]] (by rfl) rfl rfl mM ?_
      with_reducible refine (laws_eqGraph.calls kj12 t536 _ _ t537 t546 _ _ t547 true _ ?side1 ?side2 ?side3 ?side4 A36.out).mono ?_
      (case side1 => exact cP (Kd.R_reads' HO_541001.out).2.2)
      (case side2 => exact (Kd.R_reads' HO_541001.out).2.1)
      (case side3 => exact cP (Kd.R_reads' HO549.out).2.2)
      (case side4 => exact (Kd.R_reads' HO549.out).2.1)
      rintro e w43 ⟨rfl, hb⟩
      refine ⟨_, rfl, ?_⟩
      have n0_ := Aside0.mk (Kd.R_below (by exact rP HO_8.out) hb)
      have n1_ := Aside0.mk (Kd.R_below (by exact rP HO_11.out) hb)
      have n2_ := Aside0.mk (Kd.R_below (by exact rP HO_541001.out) hb)
      have n3_ := Aside0.mk (Kd.R_below (by exact rP HO549.out) hb)
      have n4_ := Aside0.mk (blk_below (g := gb526) (o := .cells #[.int .i64 a0_0, .slice A0_1 l0_1.length c0_1] 24 (0, 0)) (by exact kP BK526.out) hb)
      have n5_ := Aside0.mk (blk_below (g := gb540) (o := .cells #[.int .i64 t536, .slice Ao26 t537.length co26] 28 (0, 0)) (by exact kP BK540.out) hb)
      have n6_ := Aside0.mk (below_step (by exact bB) hb)
      clear HO_8
      clear HO_11
      clear HO_541001
      clear HO549
      clear BK526
      clear BK540
      clear HB
      have HO_8 := n0_
      have HO_11 := n1_
      have HO_541001 := n2_
      have HO549 := n3_
      have BK526 := n4_
      have BK540 := n5_
      have HB := n6_
      clear n0_ n1_ n2_ n3_ n4_ n5_ n6_
      (try clear hb)
      (try clear hb2)
      (try clear hk)
      (try clear hi)
      refine hK.out _ _ ⟨(blk_cell BK540.out 0).trans rfl, (blk_cell BK540.out 1).trans rfl, (blk_cell BK526.out 0).trans rfl, (blk_cell BK526.out 1).trans rfl⟩ (fun hHeld => ?_)
      clear hK K
      refine norm_ (a' := ?_) ?_ ?_
      rotate_left
      ·show Act.put _ (some 52) _ = _
       simp only [Act.put, List.setIfInBounds_toArray, List.set_cons_zero, List.set_cons_succ, i64_w, i32_w]
       rfl
      refine pure_ (i := 4) (N := some 53) (v := ?_) (a' := ?_) #[true,true,true,true,true] rfl rfl (by kernel_rfl) (fun _ _ _ h => h) (Or.inl ⟨by rfl, ?_⟩) ?_ ?_
      rotate_left
      ·intro w'
       go_simp
       with_reducible rfl
      rotate_left
      ·simp only [Act.put, List.setIfInBounds_toArray, List.set_cons_zero, List.set_cons_succ, i64_w, i32_w]
       rfl
      refine done_ (by kernel_rfl) ?_
      have hnb44 := NB540_526.out
      have hnc44 := NB526_540.out
      have hcz45_0 : w43.cell? ⟨gb540, 0, none⟩ = some (.int .i64 t536) := (blk_cell BK540.out 0).trans rfl
      have hcz45_1 : w43.cell? ⟨gb540, 1, none⟩ = some (.slice Ao26 t537.length co26) := (blk_cell BK540.out 1).trans rfl
      have hfz45_0 := blk_frozen BK540.out 0
      have hfz45_1 := blk_frozen BK540.out 1
      go_upto_region 14 with (first | ((with_reducible refine gate_callee (f := 27) rfl ?_);refine goesL_ (some 56) rfl rfl Tryd.func27 (by kernel_rfl) rfl #[.agg #[.int .i64 t536, .slice Ao26 t537.length co26], .int .i64 1] rfl mM ?_;(with_reducible refine (laws_markGraph.calls t536 (fun k_ => some k_ = (.slice Ao26 t537.length co26 : Value).ownBlock) (.slice Ao26 t537.length co26) t537 1 t551 t552 w _ ?side1 ?side2 A38.out).mono ?_);(case side1 => exact bB);(case side2 => exact Kd.R_tight rfl HO_541001.out);rintro e w46 ⟨rfl, hy0, hb, hkp⟩;refine ⟨_, rfl, ?_⟩;have n0_ := Aside0.mk (Kd.R_mono (ok' := fun k_ => some k_ ≠ (v542 : Value).ownBlock) (Kd.R_keptB ((Kd.R_apart' HO_8.out (Kd.R_typed HO_541001.out) (by decide))) hkp (fun k_ hk_ hs_ => (hk_.2) hs_)) (fun k_ hk_ => hk_.1.1));have n1_ := Aside0.mk (Kd.R_mono (ok' := fun k_ => some k_ ≠ (v533 : Value).ownBlock) (Kd.R_keptB ((Kd.R_apart' HO_11.out (Kd.R_typed HO_541001.out) (by decide))) hkp (fun k_ hk_ hs_ => (hk_.2) hs_)) (fun k_ hk_ => hk_.1.1));have n2_ := Aside0.mk (Kd.R_reok rfl hy0 (fun k_ e_ => HO_541001.out.1 k_ e_));have n3_ := Aside0.mk (blk_kept (by exact kP BK526.out) hkp (fun hs_ => (fun e_ => (Kd.R_ne HO_541001.out BK526.out (by decide)) e_) hs_));have n4_ := Aside0.mk (blk_kept (by exact kP BK540.out) hkp (fun hs_ => (fun e_ => (Kd.R_ne HO_541001.out BK540.out (by decide)) e_) hs_));have n5_ := Aside0.mk (Kd.R_mono (ok' := fun k_ => some k_ ≠ (.slice Ao26 t537.length co26 : Value).ownBlock) (Kd.R_keptB (HO549.out) hkp (fun k_ hk_ hs_ => (hk_.2) hs_)) (fun k_ hk_ => hk_.1.2));have n6_ := Aside0.mk (hb);clear HO_8;clear HO_11;clear HO_541001;clear BK526;clear BK540;clear HO549;clear HB;have HO_8 := n0_;have HO_11 := n1_;have HO_541001 := n2_;have BK526 := n3_;have BK540 := n4_;have HO549 := n5_;have HB := n6_;clear n0_ n1_ n2_ n3_ n4_ n5_ n6_;(try clear hb);(try clear hkp);(try clear hy0)))
      (try simp only [Act.put, List.setIfInBounds_toArray, List.set_cons_zero, List.set_cons_succ])
      go_cut [69] (fun v69 wc => ∃ (kq : Nat) (x69_38 : Bool), v69 = .bool x69_38 ∧ Aside0 (laws_FnExactResistances.j1 kq a1 a2 t532 t535 t541 x69_38 a0_0 l0_1 = some r) ∧ Aside0 (kq ≤ kj12) ∧ Aside0 (Kd.R (Kd.int .i64) 3 wc w.heap.size (fun k_ => some k_ ≠ (v542 : Value).ownBlock) v533 t532) ∧ Aside0 (Kd.R (Kd.int .i64) 3 wc w.heap.size (fun k_ => some k_ ≠ (v533 : Value).ownBlock) v542 t541) ∧ Aside0 (Kd.R k92 92 wc w.heap.size (fun _ => True) (.slice Ao26 t537.length co26) t552) ∧ Aside0 (wc.heap[gb526]? = some (.cells #[.int .i64 a0_0, (.slice A0_1 l0_1.length c0_1)] 24 (0, 0))) ∧ Aside0 (wc.heap[gb540]? = some (.cells #[.int .i64 t536, (.slice Ao26 t537.length co26)] 28 (0, 0))) ∧ Aside0 (Below w.heap.size w wc))
      case first =>
       have H := HC39.out
       clear HC39
       by_cases c47 : t551 < 0
       ·rw [if_pos c47] at H
        have c47b0 : decide (t551 < 0) = true := decide_eq_true c47
        clear c47
        (first | rw [c47b0] | (simp only [i64_w, i32_w];rw [c47b0]) | skip)
        have H' := Aside0.mk H
        clear H
        go_wp2
        go_meet
        case rel => exact ⟨_, (true), (by first | rfl | (simp;done) | (simp [*];done)), H', ⟨by have := HJ12.out;first | omega | exact Nat.le_refl _⟩, ⟨by exact rP HO_8.out⟩, ⟨by exact rP HO_11.out⟩, ⟨by refine rP ?_;exact Kd.R_mono HO_541001.out (fun _ hk => trivial)⟩, ⟨by exact kP BK526.out⟩, ⟨by exact kP BK540.out⟩, ⟨by exact bB⟩⟩
       ·rw [if_neg c47] at H
        have c47b0 : decide (t551 < 0) = false := decide_eq_false c47
        clear c47
        (first | rw [c47b0] | (simp only [i64_w, i32_w];rw [c47b0]) | skip)
        replace H := Option.bind_eq_some_iff.mp H
        obtain ⟨t553, A480, H⟩ := H
        replace H : (if t553 = true then (laws_FnExactResistances.j1 kj12 a1 a2 t532 t535 t541 (t544 != t535) a0_0 l0_1) else (laws_FnExactResistances.j1 kj12 a1 a2 t532 t535 t541 true a0_0 l0_1)) = some r := H
        have A48 := Aside0.mk A480
        clear A480
        by_cases c49 : t553 = true
        ·subst c49
         have H1 : (laws_FnExactResistances.j1 kj12 a1 a2 t532 t535 t541 (t544 != t535) a0_0 l0_1) = some r := by rw [if_pos rfl] at H;exact H
         clear H
         have H := H1
         clear H1
         have H' := Aside0.mk H
         clear H
         obtain ⟨Ao50, co50, eo50⟩ := Kd.R_slice HO_11.out
         subst eo50
         obtain ⟨Ao51, co51, eo51⟩ := Kd.R_slice HO_8.out
         subst eo51
         go_wp2_with (first | (go_at_call 19;(with_reducible refine (laws_eqIntS.calls kj12 _ _ t541 _ _ t532 true _ ?side1 ?side2 ?side3 ?side4 A48.out).mono ?_);(case side1 => exact cP (Kd.R_reads' HO_11.out).2.2);(case side2 => exact (Kd.R_reads' HO_11.out).2.1);(case side3 => exact cP (Kd.R_reads' HO_8.out).2.2);(case side4 => exact (Kd.R_reads' HO_8.out).2.1);rintro e w' ⟨rfl, ⟨nd, rfl⟩⟩))
         go_meet
         case rel => exact ⟨_, ((t544 != t535)), (by first | rfl | (simp;done) | (simp [*];done)), H', ⟨by have := HJ12.out;first | omega | exact Nat.le_refl _⟩, ⟨by exact rP HO_8.out⟩, ⟨by exact rP HO_11.out⟩, ⟨by refine rP ?_;exact Kd.R_mono HO_541001.out (fun _ hk => trivial)⟩, ⟨by exact kP BK526.out⟩, ⟨by exact kP BK540.out⟩, ⟨by exact bB⟩⟩
        ·replace c49 := Bool.eq_false_iff.mpr c49
         subst c49
         have H1 : (laws_FnExactResistances.j1 kj12 a1 a2 t532 t535 t541 true a0_0 l0_1) = some r := by rw [if_neg (show ¬ (false = true) by decide)] at H;exact H
         clear H
         have H := H1
         clear H1
         have H' := Aside0.mk H
         clear H
         obtain ⟨Ao52, co52, eo52⟩ := Kd.R_slice HO_11.out
         subst eo52
         obtain ⟨Ao53, co53, eo53⟩ := Kd.R_slice HO_8.out
         subst eo53
         go_wp2_with (first | (go_at_call 19;(with_reducible refine (laws_eqIntS.calls kj12 _ _ t541 _ _ t532 false _ ?side1 ?side2 ?side3 ?side4 A48.out).mono ?_);(case side1 => exact cP (Kd.R_reads' HO_11.out).2.2);(case side2 => exact (Kd.R_reads' HO_11.out).2.1);(case side3 => exact cP (Kd.R_reads' HO_8.out).2.2);(case side4 => exact (Kd.R_reads' HO_8.out).2.1);rintro e w' ⟨rfl, ⟨nd, rfl⟩⟩))
         go_meet
         case rel => exact ⟨_, (true), (by first | rfl | (simp;done) | (simp [*];done)), H', ⟨by have := HJ12.out;first | omega | exact Nat.le_refl _⟩, ⟨by exact rP HO_8.out⟩, ⟨by exact rP HO_11.out⟩, ⟨by refine rP ?_;exact Kd.R_mono HO_541001.out (fun _ hk => trivial)⟩, ⟨by exact kP BK526.out⟩, ⟨by exact kP BK540.out⟩, ⟨by exact bB⟩⟩
      case rest =>
       clear HC39
       try clear c1
       try clear c2
       try clear p2
       try clear c3
       try clear c4
       try clear c5
       try clear c5b0
       try clear c10
       try clear c11
       try clear c13
       try clear c15
       try clear c19
       try clear c24
       try clear c27
       try clear c29
       try clear c34
       try clear c37
       try clear c38
       try clear c39
       try clear c44
       try clear c47
       try clear c47b0
       try clear c49
       try clear hcz15_0
       try clear hcz15_1
       try clear hcz17_0
       try clear hcz17_1
       try clear hcz21_0
       try clear hcz21_1
       try clear hcz25_0
       try clear hcz25_1
       try clear hcz45_0
       try clear hcz45_1
       try clear hcz7_0
       try clear hcz7_1
       try clear hfz15_0
       try clear hfz15_1
       try clear hfz17_0
       try clear hfz17_1
       try clear hfz21_0
       try clear hfz21_1
       try clear hfz25_0
       try clear hfz25_1
       try clear hfz45_0
       try clear hfz45_1
       try clear hfz7_0
       try clear hfz7_1
       try clear p2
       obtain ⟨kq, x69_38, rfl, HA, HJ38, HO_8, HO_11, HO_541001, BK526, BK540, HB⟩ := hcut
       have hl541001_38 := (Kd.R_reads' HO_541001.out).1
       rw [hl541001_38] at HO_541001
       (try simp only [hl541001_38])
       (try simp only [hl541001_38] at BK526)
       (try simp only [hl541001_38] at BK540)
       (try simp only [hl541001_38] at HO_8)
       (try simp only [hl541001_38] at HO_11)
       cases kq with
       | zero => exact absurd HA.out (by simp [laws_FnExactResistances.j1])
       | succ kj38 =>
        have H := HA.out
        clear HA
        simp only [laws_FnExactResistances.j1] at H
        by_cases c54 : x69_38 = true
        ·subst c54
         have H1 : (some false) = some r := by rw [if_pos rfl] at H;exact H
         clear H
         have H := H1
         clear H1
         obtain rfl := Option.some.inj H
         go_wp2
         go_ret
         exact ⟨by first | rfl | (simp [errW_none, errW_some] <;> rfl) | (simp [*, errW_none, errW_some] <;> rfl), by exact bB⟩
        ·replace c54 := Bool.eq_false_iff.mpr c54
         subst c54
         have H1 : ((laws_markIntS.f kj38 t541 1).bind fun bt554 => ((laws_heldIntS.f kj38 bt554.2 1).bind fun t556 => (if t556 < 0 then (some false) else (if t556 = bt554.1 then ((laws_toGraph.f kj38 a0_0 l0_1).bind fun bt557 => ((impl_Resistances.f kj38 bt557.1 bt557.2 a1 a2).bind fun bt561 => ((laws_eqIntS.f kj38 bt561.1 t532).bind fun t565 => (if t565 = true then (laws_FnExactResistances.j2 kj38 bt554.2 bt554.1 (bt561.2 != t535)) else (laws_FnExactResistances.j2 kj38 bt554.2 bt554.1 true))))) else (some false))))) = some r := by rw [if_neg (show ¬ (false = true) by decide)] at H;exact H
         clear H
         have H := H1
         clear H1
         replace H := Option.bind_eq_some_iff.mp H
         obtain ⟨⟨t554, t555⟩, A550, H⟩ := H
         replace H : ((laws_heldIntS.f kj38 t555 1).bind fun t556 => (if t556 < 0 then (some false) else (if t556 = t554 then ((laws_toGraph.f kj38 a0_0 l0_1).bind fun bt557 => ((impl_Resistances.f kj38 bt557.1 bt557.2 a1 a2).bind fun bt561 => ((laws_eqIntS.f kj38 bt561.1 t532).bind fun t565 => (if t565 = true then (laws_FnExactResistances.j2 kj38 t555 t554 (bt561.2 != t535)) else (laws_FnExactResistances.j2 kj38 t555 t554 true))))) else (some false)))) = some r := H
         have A55 := Aside0.mk A550
         clear A550
         replace H := Option.bind_eq_some_iff.mp H
         obtain ⟨t556, A560, H⟩ := H
         replace H : (if t556 < 0 then (some false) else (if t556 = t554 then ((laws_toGraph.f kj38 a0_0 l0_1).bind fun bt557 => ((impl_Resistances.f kj38 bt557.1 bt557.2 a1 a2).bind fun bt561 => ((laws_eqIntS.f kj38 bt561.1 t532).bind fun t565 => (if t565 = true then (laws_FnExactResistances.j2 kj38 t555 t554 (bt561.2 != t535)) else (laws_FnExactResistances.j2 kj38 t555 t554 true))))) else (some false))) = some r := H
         have A56 := Aside0.mk A560
         clear A560
         by_cases c57 : t556 < 0
         ·rw [if_pos c57] at H
          have c57b0 : decide (t556 < 0) = true := decide_eq_true c57
          clear c57
          obtain rfl := Option.some.inj H
          obtain ⟨Ao58, co58, eo58⟩ := Kd.R_slice HO_11.out
          subst eo58
          go_wp2_with (first | ((with_reducible refine gate_callee (f := 28) rfl ?_);refine goesL_ (some 72) rfl rfl Tryd.func28 (by kernel_rfl) rfl #[.slice Ao58 t541.length co58, .int .i64 1] rfl mM ?_;(with_reducible refine (laws_markIntS.calls kj38 (fun k_ => some k_ = (.slice Ao58 t541.length co58 : Value).ownBlock) (.slice Ao58 t541.length co58) t541 1 t554 t555 w _ ?side1 ?side2 A55.out).mono ?_);(case side1 => exact bB);(case side2 => exact Kd.R_tight rfl HO_11.out);rintro e w59 ⟨rfl, hy0, hb, hkp⟩;refine ⟨_, rfl, ?_⟩;have n0_ := Aside0.mk (Kd.R_mono (ok' := fun k_ => some k_ ≠ (.slice Ao58 t541.length co58 : Value).ownBlock) (Kd.R_keptB (HO_8.out) hkp (fun k_ hk_ hs_ => (hk_) hs_)) (fun k_ hk_ => hk_.1));have n1_ := Aside0.mk (Kd.R_reok rfl hy0 (fun k_ e_ => HO_11.out.1 k_ e_));have n2_ := Aside0.mk (Kd.R_mono (ok' := fun k_ => True) (Kd.R_keptB ((Kd.R_apart' HO_541001.out (Kd.R_typed HO_11.out) (by decide))) hkp (fun k_ hk_ hs_ => (hk_.2) hs_)) (fun k_ hk_ => trivial));have n3_ := Aside0.mk (blk_kept (by exact kP BK526.out) hkp (fun hs_ => (fun e_ => (Kd.R_ne HO_11.out BK526.out (by decide)) e_) hs_));have n4_ := Aside0.mk (blk_kept (by exact kP BK540.out) hkp (fun hs_ => (fun e_ => (Kd.R_ne HO_11.out BK540.out (by decide)) e_) hs_));have n5_ := Aside0.mk (hb);clear HO_8;clear HO_11;clear HO_541001;clear BK526;clear BK540;clear HB;have HO_8 := n0_;have HO_11 := n1_;have HO_541001 := n2_;have BK526 := n3_;have BK540 := n4_;have HB := n5_;clear n0_ n1_ n2_ n3_ n4_ n5_;(try clear hb);(try clear hkp);(try clear hy0)) | ((with_reducible refine gate_callee (f := 29) rfl ?_);refine goesL_ (some 75) rfl rfl Tryd.func29 (by kernel_rfl) rfl #[.slice Ao58 t555.length co58, .int .i64 1] rfl (by (try simp only [List.map_toArray, List.map_cons, List.map_nil]);first | done | (rw [show t555.length = t541.length from (Kd.R_reads' HO_11.out).1.symm] <;> rfl) | rfl | (simp only [List.length_drop, List.length_take];rfl)) ?_;(with_reducible refine (laws_heldIntS.calls kj38 _ _ t555 1 t556 _ ?side1 ?side2 A56.out).mono ?_);(case side1 => exact cP (Kd.R_reads' HO_11.out).2.2);(case side2 => rw [show t555.length = t541.length from (Kd.R_reads' HO_11.out).1.symm];exact (Kd.R_reads' HO_11.out).2.1);rintro e w' ⟨rfl, ⟨nd, rfl⟩⟩;refine ⟨_, rfl, ?_⟩))
          go_ret
          exact ⟨by first | rfl | (simp [errW_none, errW_some] <;> rfl) | (simp [*, errW_none, errW_some] <;> rfl), by exact bB⟩
         ·rw [if_neg c57] at H
          have c57b0 : decide (t556 < 0) = false := decide_eq_false c57
          clear c57
          by_cases c60 : t556 = t554
          ·rw [if_pos c60] at H
           have c60b0 : (t556 == t554) = true := beq_iff_eq.mpr c60
           have c60b1 : (t556 != t554) = false := bne_eq_false_iff_eq.mpr c60
           clear c60
           replace H := Option.bind_eq_some_iff.mp H
           obtain ⟨⟨t557, t558⟩, A610, H⟩ := H
           replace H : ((impl_Resistances.f kj38 t557 t558 a1 a2).bind fun bt561 => ((laws_eqIntS.f kj38 bt561.1 t532).bind fun t565 => (if t565 = true then (laws_FnExactResistances.j2 kj38 t555 t554 (bt561.2 != t535)) else (laws_FnExactResistances.j2 kj38 t555 t554 true)))) = some r := H
           have A61 := Aside0.mk A610
           clear A610
           replace H := Option.bind_eq_some_iff.mp H
           obtain ⟨⟨t561, t564⟩, A620, H⟩ := H
           replace H : ((laws_eqIntS.f kj38 t561 t532).bind fun t565 => (if t565 = true then (laws_FnExactResistances.j2 kj38 t555 t554 (t564 != t535)) else (laws_FnExactResistances.j2 kj38 t555 t554 true))) = some r := H
           have A62 := Aside0.mk A620
           clear A620
           have HC63 := Aside0.mk H
           clear H
           obtain ⟨Ao64, co64, eo64⟩ := Kd.R_slice HO_11.out
           subst eo64
           go_upto_region 25 with (first | ((with_reducible refine gate_callee (f := 28) rfl ?_);refine goesL_ (some 72) rfl rfl Tryd.func28 (by kernel_rfl) rfl #[.slice Ao64 t541.length co64, .int .i64 1] rfl mM ?_;(with_reducible refine (laws_markIntS.calls kj38 (fun k_ => some k_ = (.slice Ao64 t541.length co64 : Value).ownBlock) (.slice Ao64 t541.length co64) t541 1 t554 t555 w _ ?side1 ?side2 A55.out).mono ?_);(case side1 => exact bB);(case side2 => exact Kd.R_tight rfl HO_11.out);rintro e w65 ⟨rfl, hy0, hb, hkp⟩;refine ⟨_, rfl, ?_⟩;have n0_ := Aside0.mk (Kd.R_mono (ok' := fun k_ => some k_ ≠ (.slice Ao64 t541.length co64 : Value).ownBlock) (Kd.R_keptB (HO_8.out) hkp (fun k_ hk_ hs_ => (hk_) hs_)) (fun k_ hk_ => hk_.1));have n1_ := Aside0.mk (Kd.R_reok rfl hy0 (fun k_ e_ => HO_11.out.1 k_ e_));have n2_ := Aside0.mk (Kd.R_mono (ok' := fun k_ => True) (Kd.R_keptB ((Kd.R_apart' HO_541001.out (Kd.R_typed HO_11.out) (by decide))) hkp (fun k_ hk_ hs_ => (hk_.2) hs_)) (fun k_ hk_ => trivial));have n3_ := Aside0.mk (blk_kept (by exact kP BK526.out) hkp (fun hs_ => (fun e_ => (Kd.R_ne HO_11.out BK526.out (by decide)) e_) hs_));have n4_ := Aside0.mk (blk_kept (by exact kP BK540.out) hkp (fun hs_ => (fun e_ => (Kd.R_ne HO_11.out BK540.out (by decide)) e_) hs_));have n5_ := Aside0.mk (hb);clear HO_8;clear HO_11;clear HO_541001;clear BK526;clear BK540;clear HB;have HO_8 := n0_;have HO_11 := n1_;have HO_541001 := n2_;have BK526 := n3_;have BK540 := n4_;have HB := n5_;clear n0_ n1_ n2_ n3_ n4_ n5_;(try clear hb);(try clear hkp);(try clear hy0)) | ((with_reducible refine gate_callee (f := 29) rfl ?_);refine goesL_ (some 75) rfl rfl Tryd.func29 (by kernel_rfl) rfl #[.slice Ao64 t555.length co64, .int .i64 1] rfl (by (try simp only [List.map_toArray, List.map_cons, List.map_nil]);first | done | (rw [show t555.length = t541.length from (Kd.R_reads' HO_11.out).1.symm] <;> rfl) | rfl | (simp only [List.length_drop, List.length_take];rfl)) ?_;(with_reducible refine (laws_heldIntS.calls kj38 _ _ t555 1 t556 _ ?side1 ?side2 A56.out).mono ?_);(case side1 => exact cP (Kd.R_reads' HO_11.out).2.2);(case side2 => rw [show t555.length = t541.length from (Kd.R_reads' HO_11.out).1.symm];exact (Kd.R_reads' HO_11.out).2.1);rintro e w' ⟨rfl, ⟨nd, rfl⟩⟩;refine ⟨_, rfl, ?_⟩;have hnb66 := NB526_540.out;have hnc66 := NB540_526.out;have hcz67_0 : w65.cell? ⟨gb526, 0, none⟩ = some (.int .i64 a0_0) := (blk_cell BK526.out 0).trans rfl;have hcz67_1 : w65.cell? ⟨gb526, 1, none⟩ = some (.slice A0_1 l0_1.length c0_1) := (blk_cell BK526.out 1).trans rfl;have hfz67_0 := blk_frozen BK526.out 0;have hfz67_1 := blk_frozen BK526.out 1) | ((with_reducible refine gate_callee (f := 13) rfl ?_);refine goesL_ (some 83) rfl rfl Tryd.func13 (by kernel_rfl) rfl #[.agg #[.int .i64 a0_0, .slice A0_1 l0_1.length c0_1]] rfl mM ?_;(with_reducible refine (laws_toGraph.calls kj38 a0_0 _ _ l0_1 t557 t558 _ ?side1 ?side2 A61.out).mono ?_);(case side1 => exact cP (Kd.C_below HR0_1.out (by repeat (first | (with_reducible first | exact HB.out | apply below_alloc | apply pw_below_drewN | apply below_drew1 | refine below_set ?_ GE526.out | refine below_set ?_ GE540.out) | exact HB.out))));(case side2 => exact HC0_1.out);rintro e w68 ⟨v559, rfl, ho0, hb⟩;refine ⟨_, rfl, ?_⟩;have n0_ := Aside0.mk (Kd.R_below (by exact rP HO_8.out) hb);have n1_ := Aside0.mk (Kd.R_below (by exact rP HO_11.out) hb);have n2_ := Aside0.mk (Kd.R_elder' (by exact rP HO_541001.out) (Kd.R_base ho0) hb);have n3_ := Aside0.mk (Kd.R_lower (Kd.R_new' ho0 (Kd.R_lt (by exact rP HO_541001.out))) (below_size (by exact bB)));have n4_ := Aside0.mk (blk_below (g := gb526) (o := .cells #[.int .i64 a0_0, .slice A0_1 l0_1.length c0_1] 24 (0, 0)) (by exact kP BK526.out) hb);have n5_ := Aside0.mk (blk_below (g := gb540) (o := .cells #[.int .i64 t536, .slice Ao26 t552.length co26] 28 (0, 0)) (by exact kP BK540.out) hb);have n6_ := Aside0.mk (below_step (by exact bB) hb);clear HO_8;clear HO_11;clear HO_541001;clear BK526;clear BK540;clear HB;have HO_8 := n0_;have HO_11 := n1_;have HO_541001 := n2_;have HO560 := n3_;have BK526 := n4_;have BK540 := n5_;have HB := n6_;clear n0_ n1_ n2_ n3_ n4_ n5_ n6_;(try clear hb);(try clear hb2);(try clear hk);(try clear hi);(try clear ho0);obtain ⟨Ao69, co69, eo69⟩ := Kd.R_slice HO560.out;subst eo69) | ((with_reducible refine gate_callee (f := 39) rfl ?_);refine goesL_ (some 86) rfl rfl Tryd.func39 (by kernel_rfl) rfl #[.agg #[.int .i64 t557, .slice Ao69 t558.length co69], .int .i64 a1, .bool a2] rfl mM ?_;(with_reducible refine (impl_Resistances.calls kj38 t557 _ _ t558 a1 a2 t561 t564 _ ?sideT ?side1 ?side2 A62.out).mono ?_);(case sideT => exact tabG_below HT.out (by exact bB));(case side1 => exact cP (Kd.R_reads' HO560.out).2.2);(case side2 => exact (Kd.R_reads' HO560.out).2.1);rintro e w70 ⟨v562, rfl, ho0, hb⟩;refine ⟨_, rfl, ?_⟩;have n0_ := Aside0.mk (Kd.R_elder' (by exact rP HO_8.out) (Kd.R_base ho0) hb);have n1_ := Aside0.mk (Kd.R_elder' (by exact rP HO_11.out) (Kd.R_base ho0) hb);have n2_ := Aside0.mk (Kd.R_below (by exact rP HO_541001.out) hb);have n3_ := Aside0.mk (Kd.R_below (by exact rP HO560.out) hb);have n4_ := Aside0.mk (Kd.R_lower (Kd.R_new' (Kd.R_new' ho0 (Kd.R_lt (by exact rP HO_8.out))) (Kd.R_lt (by exact rP HO_11.out))) (below_size (by exact bB)));have n5_ := Aside0.mk (blk_below (g := gb526) (o := .cells #[.int .i64 a0_0, .slice A0_1 l0_1.length c0_1] 24 (0, 0)) (by exact kP BK526.out) hb);have n6_ := Aside0.mk (blk_below (g := gb540) (o := .cells #[.int .i64 t536, .slice Ao26 t552.length co26] 28 (0, 0)) (by exact kP BK540.out) hb);have n7_ := Aside0.mk (below_step (by exact bB) hb);clear HO_8;clear HO_11;clear HO_541001;clear HO560;clear BK526;clear BK540;clear HB;have HO_8 := n0_;have HO_11 := n1_;have HO_541001 := n2_;have HO560 := n3_;have HO563 := n4_;have BK526 := n5_;have BK540 := n6_;have HB := n7_;clear n0_ n1_ n2_ n3_ n4_ n5_ n6_ n7_;(try clear hb);(try clear hb2);(try clear hk);(try clear hi);(try clear ho0)))
           (try simp only [Act.put, List.setIfInBounds_toArray, List.set_cons_zero, List.set_cons_succ])
           go_cut [97] (fun v97 wc => ∃ (kq : Nat) (x97_62 : Bool), v97 = .bool x97_62 ∧ Aside0 (laws_FnExactResistances.j2 kq t555 t554 x97_62 = some r) ∧ Aside0 (kq ≤ kj38) ∧ Aside0 (Kd.R (Kd.int .i64) 3 wc w.heap.size (fun _ => True) (.slice Ao64 t541.length co64) t555) ∧ Aside0 (Kd.R k92 92 wc w.heap.size (fun _ => True) (.slice Ao26 t552.length co26) t552) ∧ Aside0 (wc.heap[gb526]? = some (.cells #[.int .i64 a0_0, (.slice A0_1 l0_1.length c0_1)] 24 (0, 0))) ∧ Aside0 (wc.heap[gb540]? = some (.cells #[.int .i64 t536, (.slice Ao26 t552.length co26)] 28 (0, 0))) ∧ Aside0 (Below w.heap.size w wc))
           case first =>
            have H := HC63.out
            clear HC63
            replace H := Option.bind_eq_some_iff.mp H
            obtain ⟨t565, A710, H⟩ := H
            replace H : (if t565 = true then (laws_FnExactResistances.j2 kj38 t555 t554 (t564 != t535)) else (laws_FnExactResistances.j2 kj38 t555 t554 true)) = some r := H
            have A71 := Aside0.mk A710
            clear A710
            by_cases c72 : t565 = true
            ·subst c72
             have H1 : (laws_FnExactResistances.j2 kj38 t555 t554 (t564 != t535)) = some r := by rw [if_pos rfl] at H;exact H
             clear H
             have H := H1
             clear H1
             have H' := Aside0.mk H
             clear H
             obtain ⟨Ao73, co73, eo73⟩ := Kd.R_slice HO563.out
             subst eo73
             obtain ⟨Ao74, co74, eo74⟩ := Kd.R_slice HO_8.out
             subst eo74
             go_wp2_with (first | ((with_reducible refine gate_callee (f := 19) rfl ?_);refine goesL_ (some 91) rfl rfl Tryd.func19 (by kernel_rfl) rfl #[.slice Ao73 t561.length co73, .slice Ao74 t532.length co74] rfl mM ?_;(with_reducible refine (laws_eqIntS.calls kj38 _ _ t561 _ _ t532 true _ ?side1 ?side2 ?side3 ?side4 A71.out).mono ?_);(case side1 => exact cP (Kd.R_reads' HO563.out).2.2);(case side2 => exact (Kd.R_reads' HO563.out).2.1);(case side3 => exact cP (Kd.R_reads' HO_8.out).2.2);(case side4 => exact (Kd.R_reads' HO_8.out).2.1);rintro e w' ⟨rfl, ⟨nd, rfl⟩⟩;refine ⟨_, rfl, ?_⟩))
             go_meet
             case rel => exact ⟨_, ((t564 != t535)), (by first | rfl | (simp;done) | (simp [*];done)), H', ⟨by have := HJ12.out;have := HJ38.out;first | omega | exact Nat.le_refl _⟩, ⟨by (try simp only [hl541001_38]);refine rP ?_;exact Kd.R_mono HO_11.out (fun _ hk => trivial)⟩, ⟨by (try simp only [hl541001_38]);refine rP ?_;exact Kd.R_mono HO_541001.out (fun _ hk => trivial)⟩, ⟨by (try simp only [hl541001_38]);exact kP BK526.out⟩, ⟨by (try simp only [hl541001_38]);exact kP BK540.out⟩, ⟨by exact bB⟩⟩
            ·replace c72 := Bool.eq_false_iff.mpr c72
             subst c72
             have H1 : (laws_FnExactResistances.j2 kj38 t555 t554 true) = some r := by rw [if_neg (show ¬ (false = true) by decide)] at H;exact H
             clear H
             have H := H1
             clear H1
             have H' := Aside0.mk H
             clear H
             obtain ⟨Ao75, co75, eo75⟩ := Kd.R_slice HO563.out
             subst eo75
             obtain ⟨Ao76, co76, eo76⟩ := Kd.R_slice HO_8.out
             subst eo76
             go_wp2_with (first | ((with_reducible refine gate_callee (f := 19) rfl ?_);refine goesL_ (some 91) rfl rfl Tryd.func19 (by kernel_rfl) rfl #[.slice Ao75 t561.length co75, .slice Ao76 t532.length co76] rfl mM ?_;(with_reducible refine (laws_eqIntS.calls kj38 _ _ t561 _ _ t532 false _ ?side1 ?side2 ?side3 ?side4 A71.out).mono ?_);(case side1 => exact cP (Kd.R_reads' HO563.out).2.2);(case side2 => exact (Kd.R_reads' HO563.out).2.1);(case side3 => exact cP (Kd.R_reads' HO_8.out).2.2);(case side4 => exact (Kd.R_reads' HO_8.out).2.1);rintro e w' ⟨rfl, ⟨nd, rfl⟩⟩;refine ⟨_, rfl, ?_⟩))
             go_meet
             case rel => exact ⟨_, (true), (by first | rfl | (simp;done) | (simp [*];done)), H', ⟨by have := HJ12.out;have := HJ38.out;first | omega | exact Nat.le_refl _⟩, ⟨by (try simp only [hl541001_38]);refine rP ?_;exact Kd.R_mono HO_11.out (fun _ hk => trivial)⟩, ⟨by (try simp only [hl541001_38]);refine rP ?_;exact Kd.R_mono HO_541001.out (fun _ hk => trivial)⟩, ⟨by (try simp only [hl541001_38]);exact kP BK526.out⟩, ⟨by (try simp only [hl541001_38]);exact kP BK540.out⟩, ⟨by exact bB⟩⟩
           case rest =>
            clear HC63
            try clear c1
            try clear c2
            try clear p2
            try clear c3
            try clear c4
            try clear c5
            try clear c5b0
            try clear c6
            try clear c7
            try clear c10
            try clear c11
            try clear c13
            try clear c15
            try clear c19
            try clear c24
            try clear c27
            try clear c28
            try clear c29
            try clear c34
            try clear c37
            try clear c38
            try clear c39
            try clear c44
            try clear c47
            try clear c47b0
            try clear c49
            try clear c54
            try clear c57
            try clear c57b0
            try clear c60
            try clear c60b0
            try clear c60b1
            try clear c66
            try clear c72
            try clear hcz15_0
            try clear hcz15_1
            try clear hcz17_0
            try clear hcz17_1
            try clear hcz21_0
            try clear hcz21_1
            try clear hcz25_0
            try clear hcz25_1
            try clear hcz45_0
            try clear hcz45_1
            try clear hcz67_0
            try clear hcz67_1
            try clear hcz7_0
            try clear hcz7_1
            try clear hfz15_0
            try clear hfz15_1
            try clear hfz17_0
            try clear hfz17_1
            try clear hfz21_0
            try clear hfz21_1
            try clear hfz25_0
            try clear hfz25_1
            try clear hfz45_0
            try clear hfz45_1
            try clear hfz67_0
            try clear hfz67_1
            try clear hfz7_0
            try clear hfz7_1
            try clear p2
            obtain ⟨kq, x97_62, rfl, HA, HJ62, HO_11, HO_541001, BK526, BK540, HB⟩ := hcut
            have hl11_62 := (Kd.R_reads' HO_11.out).1
            rw [hl11_62] at HO_11
            (try simp only [hl11_62])
            (try simp only [hl11_62] at BK526)
            (try simp only [hl11_62] at BK540)
            (try simp only [hl11_62] at HO_541001)
            cases kq with
            | zero => exact absurd HA.out (by simp [laws_FnExactResistances.j2])
            | succ kj62 =>
             have H := HA.out
             clear HA
             simp only [laws_FnExactResistances.j2] at H
             by_cases c77 : x97_62 = true
             ·subst c77
              have H1 : (some false) = some r := by rw [if_pos rfl] at H;exact H
              clear H
              have H := H1
              clear H1
              obtain rfl := Option.some.inj H
              go_wp2
              go_ret
              exact ⟨by first | rfl | (simp [errW_none, errW_some] <;> rfl) | (simp [*, errW_none, errW_some] <;> rfl), by exact bB⟩
             ·replace c77 := Bool.eq_false_iff.mpr c77
              subst c77
              have H1 : ((laws_heldIntS.f kj62 t555 1).bind fun t566 => (if t566 < 0 then (some false) else (if t566 = t554 then (some true) else (some false)))) = some r := by rw [if_neg (show ¬ (false = true) by decide)] at H;exact H
              clear H
              have H := H1
              clear H1
              replace H := Option.bind_eq_some_iff.mp H
              obtain ⟨t566, A780, H⟩ := H
              replace H : (if t566 < 0 then (some false) else (if t566 = t554 then (some true) else (some false))) = some r := H
              have A78 := Aside0.mk A780
              clear A780
              by_cases c79 : t566 < 0
              ·rw [if_pos c79] at H
               have c79b0 : decide (t566 < 0) = true := decide_eq_true c79
               clear c79
               obtain rfl := Option.some.inj H
               go_wp2_with (first | ((with_reducible refine gate_callee (f := 29) rfl ?_);refine goesL_ (some 100) rfl rfl Tryd.func29 (by kernel_rfl) rfl #[.slice Ao64 t555.length co64, .int .i64 1] rfl mM ?_;(with_reducible refine (laws_heldIntS.calls kj62 _ _ t555 1 t566 _ ?side1 ?side2 A78.out).mono ?_);(case side1 => exact cP (Kd.R_reads' HO_11.out).2.2);(case side2 => exact (Kd.R_reads' HO_11.out).2.1);rintro e w' ⟨rfl, ⟨nd, rfl⟩⟩;refine ⟨_, rfl, ?_⟩))
               go_ret
               exact ⟨by first | rfl | (simp [errW_none, errW_some] <;> rfl) | (simp [*, errW_none, errW_some] <;> rfl), by exact bB⟩
              ·rw [if_neg c79] at H
               have c79b0 : decide (t566 < 0) = false := decide_eq_false c79
               clear c79
               by_cases c80 : t566 = t554
               ·rw [if_pos c80] at H
                have c80b0 : (t566 == t554) = true := beq_iff_eq.mpr c80
                have c80b1 : (t566 != t554) = false := bne_eq_false_iff_eq.mpr c80
                clear c80
                obtain rfl := Option.some.inj H
                go_wp2_with (first | ((with_reducible refine gate_callee (f := 29) rfl ?_);refine goesL_ (some 100) rfl rfl Tryd.func29 (by kernel_rfl) rfl #[.slice Ao64 t555.length co64, .int .i64 1] rfl mM ?_;(with_reducible refine (laws_heldIntS.calls kj62 _ _ t555 1 t566 _ ?side1 ?side2 A78.out).mono ?_);(case side1 => exact cP (Kd.R_reads' HO_11.out).2.2);(case side2 => exact (Kd.R_reads' HO_11.out).2.1);rintro e w' ⟨rfl, ⟨nd, rfl⟩⟩;refine ⟨_, rfl, ?_⟩))
                go_ret
                exact ⟨by first | rfl | (simp [errW_none, errW_some] <;> rfl) | (simp [*, errW_none, errW_some] <;> rfl), by exact bB⟩
               ·rw [if_neg c80] at H
                have c80b0 : (t566 == t554) = false := beq_eq_false_iff_ne.mpr c80
                have c80b1 : (t566 != t554) = true := bne_iff_ne.mpr c80
                obtain rfl := Option.some.inj H
                go_wp2_with (first | ((with_reducible refine gate_callee (f := 29) rfl ?_);refine goesL_ (some 100) rfl rfl Tryd.func29 (by kernel_rfl) rfl #[.slice Ao64 t555.length co64, .int .i64 1] rfl mM ?_;(with_reducible refine (laws_heldIntS.calls kj62 _ _ t555 1 t566 _ ?side1 ?side2 A78.out).mono ?_);(case side1 => exact cP (Kd.R_reads' HO_11.out).2.2);(case side2 => exact (Kd.R_reads' HO_11.out).2.1);rintro e w' ⟨rfl, ⟨nd, rfl⟩⟩;refine ⟨_, rfl, ?_⟩))
                go_ret
                exact ⟨by first | rfl | (simp [errW_none, errW_some] <;> rfl) | (simp [*, errW_none, errW_some] <;> rfl), by exact bB⟩
          ·rw [if_neg c60] at H
           have c60b0 : (t556 == t554) = false := beq_eq_false_iff_ne.mpr c60
           have c60b1 : (t556 != t554) = true := bne_iff_ne.mpr c60
           obtain rfl := Option.some.inj H
           obtain ⟨Ao81, co81, eo81⟩ := Kd.R_slice HO_11.out
           subst eo81
           go_wp2_with (first | ((with_reducible refine gate_callee (f := 28) rfl ?_);refine goesL_ (some 72) rfl rfl Tryd.func28 (by kernel_rfl) rfl #[.slice Ao81 t541.length co81, .int .i64 1] rfl mM ?_;(with_reducible refine (laws_markIntS.calls kj38 (fun k_ => some k_ = (.slice Ao81 t541.length co81 : Value).ownBlock) (.slice Ao81 t541.length co81) t541 1 t554 t555 w _ ?side1 ?side2 A55.out).mono ?_);(case side1 => exact bB);(case side2 => exact Kd.R_tight rfl HO_11.out);rintro e w82 ⟨rfl, hy0, hb, hkp⟩;refine ⟨_, rfl, ?_⟩;have n0_ := Aside0.mk (Kd.R_mono (ok' := fun k_ => some k_ ≠ (.slice Ao81 t541.length co81 : Value).ownBlock) (Kd.R_keptB (HO_8.out) hkp (fun k_ hk_ hs_ => (hk_) hs_)) (fun k_ hk_ => hk_.1));have n1_ := Aside0.mk (Kd.R_reok rfl hy0 (fun k_ e_ => HO_11.out.1 k_ e_));have n2_ := Aside0.mk (Kd.R_mono (ok' := fun k_ => True) (Kd.R_keptB ((Kd.R_apart' HO_541001.out (Kd.R_typed HO_11.out) (by decide))) hkp (fun k_ hk_ hs_ => (hk_.2) hs_)) (fun k_ hk_ => trivial));have n3_ := Aside0.mk (blk_kept (by exact kP BK526.out) hkp (fun hs_ => (fun e_ => (Kd.R_ne HO_11.out BK526.out (by decide)) e_) hs_));have n4_ := Aside0.mk (blk_kept (by exact kP BK540.out) hkp (fun hs_ => (fun e_ => (Kd.R_ne HO_11.out BK540.out (by decide)) e_) hs_));have n5_ := Aside0.mk (hb);clear HO_8;clear HO_11;clear HO_541001;clear BK526;clear BK540;clear HB;have HO_8 := n0_;have HO_11 := n1_;have HO_541001 := n2_;have BK526 := n3_;have BK540 := n4_;have HB := n5_;clear n0_ n1_ n2_ n3_ n4_ n5_;(try clear hb);(try clear hkp);(try clear hy0)) | ((with_reducible refine gate_callee (f := 29) rfl ?_);refine goesL_ (some 75) rfl rfl Tryd.func29 (by kernel_rfl) rfl #[.slice Ao81 t555.length co81, .int .i64 1] rfl (by (try simp only [List.map_toArray, List.map_cons, List.map_nil]);first | done | (rw [show t555.length = t541.length from (Kd.R_reads' HO_11.out).1.symm] <;> rfl) | rfl | (simp only [List.length_drop, List.length_take];rfl)) ?_;(with_reducible refine (laws_heldIntS.calls kj38 _ _ t555 1 t556 _ ?side1 ?side2 A56.out).mono ?_);(case side1 => exact cP (Kd.R_reads' HO_11.out).2.2);(case side2 => rw [show t555.length = t541.length from (Kd.R_reads' HO_11.out).1.symm];exact (Kd.R_reads' HO_11.out).2.1);rintro e w' ⟨rfl, ⟨nd, rfl⟩⟩;refine ⟨_, rfl, ?_⟩))
           go_ret
           exact ⟨by first | rfl | (simp [errW_none, errW_some] <;> rfl) | (simp [*, errW_none, errW_some] <;> rfl), by exact bB⟩
     ·replace c37 := Bool.eq_false_iff.mpr c37
      subst c37
      have H1 : (some false) = some r := by rw [if_neg (show ¬ (false = true) by decide)] at H;exact H
      clear H
      have H := H1
      clear H1
      obtain rfl := Option.some.inj H
      try go_wp2
      have n0_ := Aside0.mk (Kd.R_drew HO_8.out)
      have n1_ := Aside0.mk (Kd.R_drew HO_11.out)
      have n2_ := Aside0.mk (Kd.R_drew HO_541001.out)
      have n3_ := Aside0.mk (blk_drew BK526.out)
      have n4_ := Aside0.mk (blk_drew BK540.out)
      have n5_ := Aside0.mk (below_drew1 HB.out)
      clear HO_8
      clear HO_11
      clear HO_541001
      clear BK526
      clear BK540
      clear HB
      have HO_8 := n0_
      have HO_11 := n1_
      have HO_541001 := n2_
      have BK526 := n3_
      have BK540 := n4_
      have HB := n5_
      clear n0_ n1_ n2_ n3_ n4_ n5_
      refine start_ (n := 5) (S := fun w' => w'.cell? ⟨gb540, 0, none⟩ = some (.int .i64 t536) ∧ w'.cell? ⟨gb540, 1, none⟩ = some (.slice Ao26 t537.length co26) ∧ w'.cell? ⟨gb526, 0, none⟩ = some (.int .i64 a0_0) ∧ w'.cell? ⟨gb526, 1, none⟩ = some (.slice A0_1 l0_1.length c0_1)) (ds := []) #[false,false,false,false,false] (by kernel_rfl) rfl rfl ⟨(blk_cell BK540.out 0).trans rfl, (blk_cell BK540.out 1).trans rfl, (blk_cell BK526.out 0).trans rfl, (blk_cell BK526.out 1).trans rfl⟩ (fun hHeld => ?_)
      generalize wc.drew = w83 at HO_8 HO_11 HO_541001 BK526 BK540 HB hHeld ⊢
      refine take_ (i := 0) (N := some 49) (v := ?_) (a' := ?_) #[true,false,false,false,false] rfl rfl (by kernel_rfl) (fun _ _ _ h => h) (Or.inl ⟨by rfl, ?_⟩) hHeld ?_ ?_
      rotate_left
      ·rintro w' ⟨s0, s1, s2, s3⟩
       go_simp
       with_reducible rfl
      rotate_left
      ·simp only [Act.put, List.setIfInBounds_toArray, List.set_cons_zero, List.set_cons_succ, i64_w, i32_w]
       rfl
      refine take_ (i := 1) (N := some 50) (v := ?_) (a' := ?_) #[true,true,false,false,false] rfl rfl (by kernel_rfl) (fun _ _ _ h => h) (Or.inl ⟨by rfl, ?_⟩) hHeld ?_ ?_
      rotate_left
      ·rintro w' ⟨s0, s1, s2, s3⟩
       go_simp
       with_reducible rfl
      rotate_left
      ·simp only [Act.put, List.setIfInBounds_toArray, List.set_cons_zero, List.set_cons_succ, i64_w, i32_w]
       rfl
      refine one_ (i := 2) (N := some 51) #[true,true,true,false,false] rfl rfl (by kernel_rfl) (by decide) (fun K hK => ?_)
      refine goes_ Tryd.func13 (by kernel_rfl) rfl #[.agg #[.int .i64 a0_0, .slice A0_1 l0_1.length c0_1]] (by rfl) rfl rfl mM ?_
      with_reducible refine (laws_toGraph.calls kj12 a0_0 _ _ l0_1 t546 t547 _ ?side1 ?side2 A35.out).mono ?_
      (case side1 => exact cP (Kd.C_below HR0_1.out HB.out))
      (case side2 => exact HC0_1.out)
      rintro e w84 ⟨v548, rfl, ho0, hb⟩
      refine ⟨_, rfl, ?_⟩
      have n0_ := Aside0.mk (Kd.R_below (by exact rP HO_8.out) hb)
      have n1_ := Aside0.mk (Kd.R_below (by exact rP HO_11.out) hb)
      have n2_ := Aside0.mk (Kd.R_elder' (by exact rP HO_541001.out) (Kd.R_base ho0) hb)
      have n3_ := Aside0.mk (Kd.R_lower (Kd.R_new' ho0 (Kd.R_lt (by exact rP HO_541001.out))) (below_size (by exact bB)))
      have n4_ := Aside0.mk (blk_below (g := gb526) (o := .cells #[.int .i64 a0_0, .slice A0_1 l0_1.length c0_1] 24 (0, 0)) (by exact kP BK526.out) hb)
      have n5_ := Aside0.mk (blk_below (g := gb540) (o := .cells #[.int .i64 t536, .slice Ao26 t537.length co26] 28 (0, 0)) (by exact kP BK540.out) hb)
      have n6_ := Aside0.mk (below_step (by exact bB) hb)
      clear HO_8
      clear HO_11
      clear HO_541001
      clear BK526
      clear BK540
      clear HB
      have HO_8 := n0_
      have HO_11 := n1_
      have HO_541001 := n2_
      have HO549 := n3_
      have BK526 := n4_
      have BK540 := n5_
      have HB := n6_
      clear n0_ n1_ n2_ n3_ n4_ n5_ n6_
      (try clear hb)
      (try clear hb2)
      (try clear hk)
      (try clear hi)
      (try clear ho0)
      obtain ⟨Ao85, co85, eo85⟩ := Kd.R_slice HO549.out
      (first | subst eo85 | (injection eo85 with f1_ f2_ f3_;have f4_ := f1_.symm;have f5_ := f3_.symm;clear f1_ f2_ f3_;subst f4_;subst f5_))
      refine hK.out _ _ ⟨(blk_cell BK540.out 0).trans rfl, (blk_cell BK540.out 1).trans rfl, (blk_cell BK526.out 0).trans rfl, (blk_cell BK526.out 1).trans rfl⟩ (fun hHeld => ?_)
      clear hK K
      refine norm_ (a' := ?_) ?_ ?_
      rotate_left
      ·show Act.put _ (some 51) _ = _
       simp only [Act.put, List.setIfInBounds_toArray, List.set_cons_zero, List.set_cons_succ, i64_w, i32_w]
       rfl
      refine one_ (i := 3) (N := some 52) #[true,true,true,true,false] rfl rfl (by kernel_rfl) (by decide) (fun K hK => ?_)
      refine goes_ Tryd.func15 (by kernel_rfl) rfl #[.agg #[.int .i64 t536, .slice Ao26 t537.length co26], .agg #[.int .i64 t546, .slice Ao85 t547.length co85]] (by rfl) rfl rfl mM ?_
      with_reducible refine (laws_eqGraph.calls kj12 t536 _ _ t537 t546 _ _ t547 false _ ?side1 ?side2 ?side3 ?side4 A36.out).mono ?_
      (case side1 => exact cP (Kd.R_reads' HO_541001.out).2.2)
      (case side2 => exact (Kd.R_reads' HO_541001.out).2.1)
      (case side3 => exact cP (Kd.R_reads' HO549.out).2.2)
      (case side4 => exact (Kd.R_reads' HO549.out).2.1)
      rintro e w86 ⟨rfl, hb⟩
      refine ⟨_, rfl, ?_⟩
      have n0_ := Aside0.mk (Kd.R_below (by exact rP HO_8.out) hb)
      have n1_ := Aside0.mk (Kd.R_below (by exact rP HO_11.out) hb)
      have n2_ := Aside0.mk (Kd.R_below (by exact rP HO_541001.out) hb)
      have n3_ := Aside0.mk (Kd.R_below (by exact rP HO549.out) hb)
      have n4_ := Aside0.mk (blk_below (g := gb526) (o := .cells #[.int .i64 a0_0, .slice A0_1 l0_1.length c0_1] 24 (0, 0)) (by exact kP BK526.out) hb)
      have n5_ := Aside0.mk (blk_below (g := gb540) (o := .cells #[.int .i64 t536, .slice Ao26 t537.length co26] 28 (0, 0)) (by exact kP BK540.out) hb)
      have n6_ := Aside0.mk (below_step (by exact bB) hb)
      clear HO_8
      clear HO_11
      clear HO_541001
      clear HO549
      clear BK526
      clear BK540
      clear HB
      have HO_8 := n0_
      have HO_11 := n1_
      have HO_541001 := n2_
      have HO549 := n3_
      have BK526 := n4_
      have BK540 := n5_
      have HB := n6_
      clear n0_ n1_ n2_ n3_ n4_ n5_ n6_
      (try clear hb)
      (try clear hb2)
      (try clear hk)
      (try clear hi)
      refine hK.out _ _ ⟨(blk_cell BK540.out 0).trans rfl, (blk_cell BK540.out 1).trans rfl, (blk_cell BK526.out 0).trans rfl, (blk_cell BK526.out 1).trans rfl⟩ (fun hHeld => ?_)
      clear hK K
      refine norm_ (a' := ?_) ?_ ?_
      rotate_left
      ·show Act.put _ (some 52) _ = _
       simp only [Act.put, List.setIfInBounds_toArray, List.set_cons_zero, List.set_cons_succ, i64_w, i32_w]
       rfl
      refine pure_ (i := 4) (N := some 53) (v := ?_) (a' := ?_) #[true,true,true,true,true] rfl rfl (by kernel_rfl) (fun _ _ _ h => h) (Or.inl ⟨by rfl, ?_⟩) ?_ ?_
      rotate_left
      ·intro w'
       go_simp
       with_reducible rfl
      rotate_left
      ·simp only [Act.put, List.setIfInBounds_toArray, List.set_cons_zero, List.set_cons_succ, i64_w, i32_w]
       rfl
      refine done_ (by kernel_rfl) ?_
      try go_wp2
      go_ret
      exact ⟨by first | rfl | (simp [errW_none, errW_some] <;> rfl) | (simp [*, errW_none, errW_some] <;> rfl), by exact bB⟩


end Go.Proofs.YthbjajppdomhhaaDoor.QResistances
