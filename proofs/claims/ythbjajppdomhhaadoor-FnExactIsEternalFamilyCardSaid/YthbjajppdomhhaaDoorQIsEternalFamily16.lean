import Derived.Test.YthbjajppdomhhaaDoorQIsEternalFamily0
import Derived.Test.YthbjajppdomhhaaDoorQIsEternalFamily1
import Derived.Test.YthbjajppdomhhaaDoorQIsEternalFamily8
import Derived.Test.YthbjajppdomhhaaDoorQIsEternalFamily9
import Derived.Test.YthbjajppdomhhaaDoorQIsEternalFamily15
namespace Go.Proofs.YthbjajppdomhhaaDoor.QIsEternalFamily
open Go.RowKit Go.Proofs.YthbjajppdomhhaaDoorW.PrintWords Go.Proofs.YthbjajppdomhhaaDoorW.PrintLast Go.Proofs.YthbjajppdomhhaaDoorW.PrintMore
attribute [local go_sem] max2_int min2_int max_two min_two max_three min_three max_four min_four   -- for this text's walks alone
set_option linter.unusedVariables false
set_option linter.unusedSimpArgs false
/-! ### laws_FnExactIsEternalFamily: function 5 -/
def laws_FnExactIsEternalFamily.j0 : Nat → List (List Int) → List (List Int) → Bool → Int → List (S92) → Int → List (S92) → Option (Bool)
 | 0, _, _, _, _, _, _, _ => none
 | k + 1, x1, x11, x51, x535000, x535001, x551000, x551001 => if x51 = true then (some false) else ((laws_toGraph.f k x535000 x535001).bind fun bt556 => ((laws_eqGraph.f k x551000 x551001 bt556.1 bt556.2).bind fun t560 => (if t560 = true then ((laws_toIntSS.f k x1).bind fun t561 => ((laws_eqIntSS.f k x11 t561).bind fun t564 => (if t564 = true then (some true) else (some false)))) else (some false))))
def laws_FnExactIsEternalFamily.f (k : Nat) (a0_0 : Int) (l0_1 : List (S92)) (l1 : List (List Int)) (a2 : Bool) : Option (Bool) := (laws_szGraph.f a0_0 l0_1 1048576).bind fun t535 => (if t535 < 0 then (some true) else ((laws_szIntSS.f k l1 t535).bind fun t536 => (if t536 < 0 then (some true) else ((laws_toGraph.f k a0_0 l0_1).bind fun bt537 => ((laws_toIntSS.f k l1).bind fun t541 => ((spec_IsEternalFamily.f k bt537.1 bt537.2 t541 a2).bind fun bt544 => ((laws_toGraph.f k a0_0 l0_1).bind fun bt546 => ((laws_toIntSS.f k l1).bind fun t551 => ((impl_IsEternalFamily.f k bt546.1 bt546.2 t551 a2).bind fun bt554 => (if (bt554.1 != bt544.1) = true then (laws_FnExactIsEternalFamily.j0 k l1 t551 true a0_0 l0_1 bt546.1 bt546.2) else (laws_FnExactIsEternalFamily.j0 k l1 t551 (bt554.2 != bt544.2) a0_0 l0_1 bt546.1 bt546.2)))))))))))
theorem laws_FnExactIsEternalFamily.mono_l : ∀ k, (∀ y0 y1 y2 y3 y4 y5 y6, LeO (laws_FnExactIsEternalFamily.j0 k y0 y1 y2 y3 y4 y5 y6) (laws_FnExactIsEternalFamily.j0 (k + 1) y0 y1 y2 y3 y4 y5 y6))
 | 0 => fun _ _ _ _ _ _ _ r h => by simp [laws_FnExactIsEternalFamily.j0] at h
 | k + 1 => by
  have ih0 := laws_FnExactIsEternalFamily.mono_l k
  ·intro y0 y1 y2 y3 y4 y5 y6
   unfold laws_FnExactIsEternalFamily.j0
   repeat' first
   | (with_reducible exact ih0 _ _ _ _ _ _ _)
   | (with_reducible exact impl_IsEternalFamily.mono _ _ _ _ _)
   | (with_reducible exact laws_eqGraph.mono _ _ _ _ _)
   | (with_reducible exact laws_eqIntSS.mono _ _ _)
   | (with_reducible exact laws_szIntSS.mono _ _ _)
   | (with_reducible exact laws_toGraph.mono _ _ _)
   | (with_reducible exact laws_toIntSS.mono _ _)
   | (with_reducible exact spec_IsEternalFamily.mono _ _ _ _ _)
   | (with_reducible exact LeO.refl _)
   | (with_reducible exact LeO.none _)
   | (with_reducible refine LeO.ite ?_ ?_)
   | (with_reducible refine LeO.bind ?_ (fun _ => ?_))
   | exact ih0 _ _ _ _ _ _ _
   | exact impl_IsEternalFamily.mono _ _ _ _ _
   | exact laws_eqGraph.mono _ _ _ _ _
   | exact laws_eqIntSS.mono _ _ _
   | exact laws_szIntSS.mono _ _ _
   | exact laws_toGraph.mono _ _ _
   | exact laws_toIntSS.mono _ _
   | exact spec_IsEternalFamily.mono _ _ _ _ _
   | exact LeO.none _
   | refine LeO.ite ?_ ?_
   | refine LeO.bind ?_ (fun _ => ?_)
theorem laws_FnExactIsEternalFamily.mono : ∀ a0 a1 a2 a3 k, LeO (laws_FnExactIsEternalFamily.f k a0 a1 a2 a3) (laws_FnExactIsEternalFamily.f (k + 1) a0 a1 a2 a3) := by
 intro a0 a1 a2 a3 k
 have ih0 := laws_FnExactIsEternalFamily.mono_l k
 unfold laws_FnExactIsEternalFamily.f
 repeat' first
   | (with_reducible exact ih0 _ _ _ _ _ _ _)
   | (with_reducible exact impl_IsEternalFamily.mono _ _ _ _ _)
   | (with_reducible exact laws_eqGraph.mono _ _ _ _ _)
   | (with_reducible exact laws_eqIntSS.mono _ _ _)
   | (with_reducible exact laws_szIntSS.mono _ _ _)
   | (with_reducible exact laws_toGraph.mono _ _ _)
   | (with_reducible exact laws_toIntSS.mono _ _)
   | (with_reducible exact spec_IsEternalFamily.mono _ _ _ _ _)
   | (with_reducible exact LeO.refl _)
   | (with_reducible exact LeO.none _)
   | (with_reducible refine LeO.ite ?_ ?_)
   | (with_reducible refine LeO.bind ?_ (fun _ => ?_))
   | exact ih0 _ _ _ _ _ _ _
   | exact impl_IsEternalFamily.mono _ _ _ _ _
   | exact laws_eqGraph.mono _ _ _ _ _
   | exact laws_eqIntSS.mono _ _ _
   | exact laws_szIntSS.mono _ _ _
   | exact laws_toGraph.mono _ _ _
   | exact laws_toIntSS.mono _ _
   | exact spec_IsEternalFamily.mono _ _ _ _ _
   | exact LeO.none _
   | refine LeO.ite ?_ ?_
   | refine LeO.bind ?_ (fun _ => ?_)
set_option maxHeartbeats 8000000 in
set_option maxRecDepth 100000 in
theorem laws_FnExactIsEternalFamily.calls (k : Nat) (a0_0 : Int) (A0_1 : Option Addr) (c0_1 : Nat) (l0_1 : List (S92)) (A1 : Option Addr) (c1 : Nat) (l1 : List (List Int)) (a2 : Bool) (r : Bool) (w : World) (hT : TabG w) (hr0_1 : Kd.C k92 w A0_1 l0_1.length l0_1) (hc0_1 : l0_1.length ≤ c0_1) (hr1 : Kd.C (Kd.slice 3 (Kd.int .i64)) w A1 l1.length l1) (hc1 : l1.length ≤ c1) (h : laws_FnExactIsEternalFamily.f k a0_0 l0_1 l1 a2 = some r) :
  Calls Tryd.prog 5 #[.agg #[.int .i64 a0_0, .slice A0_1 l0_1.length c0_1], .slice A1 l1.length c1, .bool a2] w fun e w' => e = .returned (.bool r) ∧ Below w.heap.size w w' := by
 have hu24 := Tryd.underlying24
 have hu28 := Tryd.underlying28
 have HR0_1 := Aside0.mk hr0_1
 have HC0_1 := Aside0.mk hc0_1
 clear hr0_1 hc0_1
 have HR1 := Aside0.mk hr1
 have HC1 := Aside0.mk hc1
 clear hr1 hc1
 have HB := Aside0.mk (Below.refl w.heap.size w)
 have HT := Aside0.mk hT
 clear hT
 have H : ((laws_szGraph.f a0_0 l0_1 1048576).bind fun t535 => (if t535 < 0 then (some true) else ((laws_szIntSS.f k l1 t535).bind fun t536 => (if t536 < 0 then (some true) else ((laws_toGraph.f k a0_0 l0_1).bind fun bt537 => ((laws_toIntSS.f k l1).bind fun t541 => ((spec_IsEternalFamily.f k bt537.1 bt537.2 t541 a2).bind fun bt544 => ((laws_toGraph.f k a0_0 l0_1).bind fun bt546 => ((laws_toIntSS.f k l1).bind fun t551 => ((impl_IsEternalFamily.f k bt546.1 bt546.2 t551 a2).bind fun bt554 => (if (bt554.1 != bt544.1) = true then (laws_FnExactIsEternalFamily.j0 k l1 t551 true a0_0 l0_1 bt546.1 bt546.2) else (laws_FnExactIsEternalFamily.j0 k l1 t551 (bt554.2 != bt544.2) a0_0 l0_1 bt546.1 bt546.2)))))))))))) = some r := h
 clear h
 replace H := Option.bind_eq_some_iff.mp H
 obtain ⟨t535, A40, H⟩ := H
 replace H : (if t535 < 0 then (some true) else ((laws_szIntSS.f k l1 t535).bind fun t536 => (if t536 < 0 then (some true) else ((laws_toGraph.f k a0_0 l0_1).bind fun bt537 => ((laws_toIntSS.f k l1).bind fun t541 => ((spec_IsEternalFamily.f k bt537.1 bt537.2 t541 a2).bind fun bt544 => ((laws_toGraph.f k a0_0 l0_1).bind fun bt546 => ((laws_toIntSS.f k l1).bind fun t551 => ((impl_IsEternalFamily.f k bt546.1 bt546.2 t551 a2).bind fun bt554 => (if (bt554.1 != bt544.1) = true then (laws_FnExactIsEternalFamily.j0 k l1 t551 true a0_0 l0_1 bt546.1 bt546.2) else (laws_FnExactIsEternalFamily.j0 k l1 t551 (bt554.2 != bt544.2) a0_0 l0_1 bt546.1 bt546.2))))))))))) = some r := H
 have A4 := Aside0.mk A40
 clear A40
 by_cases c5 : t535 < 0
 ·rw [if_pos c5] at H
  have c5b0 : decide (t535 < 0) = true := decide_eq_true c5
  clear c5
  obtain rfl := Option.some.inj H
  go_enter Tryd.func5, Tryd.ntmps5
  go_wp2_with (first | ((with_reducible refine gate_dst (N := 3) rfl ?_);refine box_event ?hg (N := 3) ?hd (cs := #[.int .i64 a0_0, .slice A0_1 l0_1.length c0_1]) (t := 24) ?hr ?_;(case hd => rfl);(case hg => rfl);(case hr => first | (go_simp;done) | (go_simp;rfl));intro gb534 hg w6 hbox hb;have n0_ := Aside0.mk (below_step (by exact bB) hb);have n1_ := Aside0.mk (hbox);have n2_ := Aside0.mk ((by rw [hg];exact (below_size (by exact bB)) : w.heap.size ≤ gb534));have n3_ := Aside0.mk ((by rw [hg];exact (below_size (by exact bB)) : w.heap.size ≤ gb534));clear HB;have HB := n0_;have BK534 := n1_;have GW534 := n2_;have GE534 := n3_;clear n0_ n1_ n2_ n3_;clear hb hbox hg;have hcz7_0 : w6.cell? ⟨gb534, 0, none⟩ = some (.int .i64 a0_0) := (blk_cell BK534.out 0).trans rfl;have hcz7_1 : w6.cell? ⟨gb534, 1, none⟩ = some (.slice A0_1 l0_1.length c0_1) := (blk_cell BK534.out 1).trans rfl;have hfz7_0 := blk_frozen BK534.out 0;have hfz7_1 := blk_frozen BK534.out 1) | ((with_reducible refine gate_callee (f := 11) rfl ?_);refine goesL_ (some 16) rfl rfl Tryd.func11 (by kernel_rfl) rfl #[.agg #[.int .i64 a0_0, .slice A0_1 l0_1.length c0_1], .int .i64 1048576] rfl mM ?_;(with_reducible refine (laws_szGraph.calls a0_0 _ _ l0_1 1048576 t535 _ ?side1 ?side2 A4.out).mono ?_);(case side1 => exact cP (Kd.C_below HR0_1.out HB.out));(case side2 => exact HC0_1.out);rintro e w8 ⟨rfl, hb⟩;refine ⟨_, rfl, ?_⟩;have n0_ := Aside0.mk (blk_below (g := gb534) (o := .cells #[.int .i64 a0_0, .slice A0_1 l0_1.length c0_1] 24 (0, 0)) (by exact kP BK534.out) hb);have n1_ := Aside0.mk (below_step (by exact bB) hb);clear BK534;clear HB;have BK534 := n0_;have HB := n1_;clear n0_ n1_;(try clear hb);(try clear hb2);(try clear hk);(try clear hi)))
  go_ret
  exact ⟨by first | rfl | (simp [errW_none, errW_some] <;> rfl) | (simp [*, errW_none, errW_some] <;> rfl), by exact bB⟩
 ·rw [if_neg c5] at H
  have c5b0 : decide (t535 < 0) = false := decide_eq_false c5
  clear c5
  replace H := Option.bind_eq_some_iff.mp H
  obtain ⟨t536, A90, H⟩ := H
  replace H : (if t536 < 0 then (some true) else ((laws_toGraph.f k a0_0 l0_1).bind fun bt537 => ((laws_toIntSS.f k l1).bind fun t541 => ((spec_IsEternalFamily.f k bt537.1 bt537.2 t541 a2).bind fun bt544 => ((laws_toGraph.f k a0_0 l0_1).bind fun bt546 => ((laws_toIntSS.f k l1).bind fun t551 => ((impl_IsEternalFamily.f k bt546.1 bt546.2 t551 a2).bind fun bt554 => (if (bt554.1 != bt544.1) = true then (laws_FnExactIsEternalFamily.j0 k l1 t551 true a0_0 l0_1 bt546.1 bt546.2) else (laws_FnExactIsEternalFamily.j0 k l1 t551 (bt554.2 != bt544.2) a0_0 l0_1 bt546.1 bt546.2))))))))) = some r := H
  have A9 := Aside0.mk A90
  clear A90
  by_cases c10 : t536 < 0
  ·rw [if_pos c10] at H
   have c10b0 : decide (t536 < 0) = true := decide_eq_true c10
   clear c10
   obtain rfl := Option.some.inj H
   go_enter Tryd.func5, Tryd.ntmps5
   go_wp2_with (first | ((with_reducible refine gate_dst (N := 3) rfl ?_);refine box_event ?hg (N := 3) ?hd (cs := #[.int .i64 a0_0, .slice A0_1 l0_1.length c0_1]) (t := 24) ?hr ?_;(case hd => rfl);(case hg => rfl);(case hr => first | (go_simp;done) | (go_simp;rfl));intro gb534 hg w11 hbox hb;have n0_ := Aside0.mk (below_step (by exact bB) hb);have n1_ := Aside0.mk (hbox);have n2_ := Aside0.mk ((by rw [hg];exact (below_size (by exact bB)) : w.heap.size ≤ gb534));have n3_ := Aside0.mk ((by rw [hg];exact (below_size (by exact bB)) : w.heap.size ≤ gb534));clear HB;have HB := n0_;have BK534 := n1_;have GW534 := n2_;have GE534 := n3_;clear n0_ n1_ n2_ n3_;clear hb hbox hg;have hcz12_0 : w11.cell? ⟨gb534, 0, none⟩ = some (.int .i64 a0_0) := (blk_cell BK534.out 0).trans rfl;have hcz12_1 : w11.cell? ⟨gb534, 1, none⟩ = some (.slice A0_1 l0_1.length c0_1) := (blk_cell BK534.out 1).trans rfl;have hfz12_0 := blk_frozen BK534.out 0;have hfz12_1 := blk_frozen BK534.out 1) | ((with_reducible refine gate_callee (f := 11) rfl ?_);refine goesL_ (some 16) rfl rfl Tryd.func11 (by kernel_rfl) rfl #[.agg #[.int .i64 a0_0, .slice A0_1 l0_1.length c0_1], .int .i64 1048576] rfl mM ?_;(with_reducible refine (laws_szGraph.calls a0_0 _ _ l0_1 1048576 t535 _ ?side1 ?side2 A4.out).mono ?_);(case side1 => exact cP (Kd.C_below HR0_1.out HB.out));(case side2 => exact HC0_1.out);rintro e w13 ⟨rfl, hb⟩;refine ⟨_, rfl, ?_⟩;have n0_ := Aside0.mk (blk_below (g := gb534) (o := .cells #[.int .i64 a0_0, .slice A0_1 l0_1.length c0_1] 24 (0, 0)) (by exact kP BK534.out) hb);have n1_ := Aside0.mk (below_step (by exact bB) hb);clear BK534;clear HB;have BK534 := n0_;have HB := n1_;clear n0_ n1_;(try clear hb);(try clear hb2);(try clear hk);(try clear hi)) | ((with_reducible refine gate_callee (f := 20) rfl ?_);refine goesL_ (some 21) rfl rfl Tryd.func20 (by kernel_rfl) rfl #[.slice A1 l1.length c1, .int .i64 t535] rfl mM ?_;(with_reducible refine (laws_szIntSS.calls k _ _ l1 t535 t536 _ ?side1 ?side2 A9.out).mono ?_);(case side1 => exact cP (Kd.C_below HR1.out HB.out));(case side2 => exact HC1.out);rintro e w' ⟨rfl, ⟨nd, rfl⟩⟩;refine ⟨_, rfl, ?_⟩))
   go_ret
   exact ⟨by first | rfl | (simp [errW_none, errW_some] <;> rfl) | (simp [*, errW_none, errW_some] <;> rfl), by exact bB⟩
  ·rw [if_neg c10] at H
   have c10b0 : decide (t536 < 0) = false := decide_eq_false c10
   clear c10
   replace H := Option.bind_eq_some_iff.mp H
   obtain ⟨⟨t537, t538⟩, A140, H⟩ := H
   replace H : ((laws_toIntSS.f k l1).bind fun t541 => ((spec_IsEternalFamily.f k t537 t538 t541 a2).bind fun bt544 => ((laws_toGraph.f k a0_0 l0_1).bind fun bt546 => ((laws_toIntSS.f k l1).bind fun t551 => ((impl_IsEternalFamily.f k bt546.1 bt546.2 t551 a2).bind fun bt554 => (if (bt554.1 != bt544.1) = true then (laws_FnExactIsEternalFamily.j0 k l1 t551 true a0_0 l0_1 bt546.1 bt546.2) else (laws_FnExactIsEternalFamily.j0 k l1 t551 (bt554.2 != bt544.2) a0_0 l0_1 bt546.1 bt546.2))))))) = some r := H
   have A14 := Aside0.mk A140
   clear A140
   replace H := Option.bind_eq_some_iff.mp H
   obtain ⟨t541, A150, H⟩ := H
   replace H : ((spec_IsEternalFamily.f k t537 t538 t541 a2).bind fun bt544 => ((laws_toGraph.f k a0_0 l0_1).bind fun bt546 => ((laws_toIntSS.f k l1).bind fun t551 => ((impl_IsEternalFamily.f k bt546.1 bt546.2 t551 a2).bind fun bt554 => (if (bt554.1 != bt544.1) = true then (laws_FnExactIsEternalFamily.j0 k l1 t551 true a0_0 l0_1 bt546.1 bt546.2) else (laws_FnExactIsEternalFamily.j0 k l1 t551 (bt554.2 != bt544.2) a0_0 l0_1 bt546.1 bt546.2)))))) = some r := H
   have A15 := Aside0.mk A150
   clear A150
   replace H := Option.bind_eq_some_iff.mp H
   obtain ⟨⟨t544, t545⟩, A160, H⟩ := H
   replace H : ((laws_toGraph.f k a0_0 l0_1).bind fun bt546 => ((laws_toIntSS.f k l1).bind fun t551 => ((impl_IsEternalFamily.f k bt546.1 bt546.2 t551 a2).bind fun bt554 => (if (bt554.1 != t544) = true then (laws_FnExactIsEternalFamily.j0 k l1 t551 true a0_0 l0_1 bt546.1 bt546.2) else (laws_FnExactIsEternalFamily.j0 k l1 t551 (bt554.2 != t545) a0_0 l0_1 bt546.1 bt546.2))))) = some r := H
   have A16 := Aside0.mk A160
   clear A160
   replace H := Option.bind_eq_some_iff.mp H
   obtain ⟨⟨t546, t547⟩, A170, H⟩ := H
   replace H : ((laws_toIntSS.f k l1).bind fun t551 => ((impl_IsEternalFamily.f k t546 t547 t551 a2).bind fun bt554 => (if (bt554.1 != t544) = true then (laws_FnExactIsEternalFamily.j0 k l1 t551 true a0_0 l0_1 t546 t547) else (laws_FnExactIsEternalFamily.j0 k l1 t551 (bt554.2 != t545) a0_0 l0_1 t546 t547)))) = some r := H
   have A17 := Aside0.mk A170
   clear A170
   replace H := Option.bind_eq_some_iff.mp H
   obtain ⟨t551, A180, H⟩ := H
   replace H : ((impl_IsEternalFamily.f k t546 t547 t551 a2).bind fun bt554 => (if (bt554.1 != t544) = true then (laws_FnExactIsEternalFamily.j0 k l1 t551 true a0_0 l0_1 t546 t547) else (laws_FnExactIsEternalFamily.j0 k l1 t551 (bt554.2 != t545) a0_0 l0_1 t546 t547))) = some r := H
   have A18 := Aside0.mk A180
   clear A180
   replace H := Option.bind_eq_some_iff.mp H
   obtain ⟨⟨t554, t555⟩, A190, H⟩ := H
   replace H : (if (t554 != t544) = true then (laws_FnExactIsEternalFamily.j0 k l1 t551 true a0_0 l0_1 t546 t547) else (laws_FnExactIsEternalFamily.j0 k l1 t551 (t555 != t545) a0_0 l0_1 t546 t547)) = some r := H
   have A19 := Aside0.mk A190
   clear A190
   have HC20 := Aside0.mk H
   clear H
   go_enter Tryd.func5, Tryd.ntmps5
   go_upto_region 12 with (first | ((with_reducible refine gate_dst (N := 3) rfl ?_);refine box_event ?hg (N := 3) ?hd (cs := #[.int .i64 a0_0, .slice A0_1 l0_1.length c0_1]) (t := 24) ?hr ?_;(case hd => rfl);(case hg => rfl);(case hr => first | (go_simp;done) | (go_simp;rfl));intro gb534 hg w21 hbox hb;have n0_ := Aside0.mk (below_step (by exact bB) hb);have n1_ := Aside0.mk (hbox);have n2_ := Aside0.mk ((by rw [hg];exact (below_size (by exact bB)) : w.heap.size ≤ gb534));have n3_ := Aside0.mk ((by rw [hg];exact (below_size (by exact bB)) : w.heap.size ≤ gb534));clear HB;have HB := n0_;have BK534 := n1_;have GW534 := n2_;have GE534 := n3_;clear n0_ n1_ n2_ n3_;clear hb hbox hg;have hcz22_0 : w21.cell? ⟨gb534, 0, none⟩ = some (.int .i64 a0_0) := (blk_cell BK534.out 0).trans rfl;have hcz22_1 : w21.cell? ⟨gb534, 1, none⟩ = some (.slice A0_1 l0_1.length c0_1) := (blk_cell BK534.out 1).trans rfl;have hfz22_0 := blk_frozen BK534.out 0;have hfz22_1 := blk_frozen BK534.out 1) | ((with_reducible refine gate_callee (f := 11) rfl ?_);refine goesL_ (some 16) rfl rfl Tryd.func11 (by kernel_rfl) rfl #[.agg #[.int .i64 a0_0, .slice A0_1 l0_1.length c0_1], .int .i64 1048576] rfl mM ?_;(with_reducible refine (laws_szGraph.calls a0_0 _ _ l0_1 1048576 t535 _ ?side1 ?side2 A4.out).mono ?_);(case side1 => exact cP (Kd.C_below HR0_1.out HB.out));(case side2 => exact HC0_1.out);rintro e w23 ⟨rfl, hb⟩;refine ⟨_, rfl, ?_⟩;have n0_ := Aside0.mk (blk_below (g := gb534) (o := .cells #[.int .i64 a0_0, .slice A0_1 l0_1.length c0_1] 24 (0, 0)) (by exact kP BK534.out) hb);have n1_ := Aside0.mk (below_step (by exact bB) hb);clear BK534;clear HB;have BK534 := n0_;have HB := n1_;clear n0_ n1_;(try clear hb);(try clear hb2);(try clear hk);(try clear hi)) | ((with_reducible refine gate_callee (f := 20) rfl ?_);refine goesL_ (some 21) rfl rfl Tryd.func20 (by kernel_rfl) rfl #[.slice A1 l1.length c1, .int .i64 t535] rfl mM ?_;(with_reducible refine (laws_szIntSS.calls k _ _ l1 t535 t536 _ ?side1 ?side2 A9.out).mono ?_);(case side1 => exact cP (Kd.C_below HR1.out HB.out));(case side2 => exact HC1.out);rintro e w' ⟨rfl, ⟨nd, rfl⟩⟩;refine ⟨_, rfl, ?_⟩;(try (rw [drewN_self w23];generalize hq_ : World.drewN w23 _ = w23;have n0_ : Aside0 (w23.heap[gb534]? = some (.cells #[.int .i64 a0_0, .slice A0_1 l0_1.length c0_1] 24 (0, 0))) := ⟨by rw [← hq_];exact (by exact kP BK534.out)⟩;have n1_ : Aside0 (Below w.heap.size w w23) := ⟨by rw [← hq_];exact (by exact bB)⟩;clear BK534 HB hq_;have BK534 := n0_;have HB := n1_;clear n0_ n1_));have hcz24_0 : w23.cell? ⟨gb534, 0, none⟩ = some (.int .i64 a0_0) := (blk_cell BK534.out 0).trans rfl;have hcz24_1 : w23.cell? ⟨gb534, 1, none⟩ = some (.slice A0_1 l0_1.length c0_1) := (blk_cell BK534.out 1).trans rfl;have hfz24_0 := blk_frozen BK534.out 0;have hfz24_1 := blk_frozen BK534.out 1) | ((with_reducible refine gate_callee (f := 13) rfl ?_);refine goesL_ (some 26) rfl rfl Tryd.func13 (by kernel_rfl) rfl #[.agg #[.int .i64 a0_0, .slice A0_1 l0_1.length c0_1]] rfl mM ?_;(with_reducible refine (laws_toGraph.calls k a0_0 _ _ l0_1 t537 t538 _ ?side1 ?side2 A14.out).mono ?_);(case side1 => exact cP (Kd.C_below HR0_1.out HB.out));(case side2 => exact HC0_1.out);rintro e w25 ⟨v539, rfl, ho0, hb⟩;refine ⟨_, rfl, ?_⟩;have n0_ := Aside0.mk (Kd.R_lower ho0 (below_size (by exact bB)));have n1_ := Aside0.mk (blk_below (g := gb534) (o := .cells #[.int .i64 a0_0, .slice A0_1 l0_1.length c0_1] 24 (0, 0)) (by exact kP BK534.out) hb);have n2_ := Aside0.mk (below_step (by exact bB) hb);clear BK534;clear HB;have HO540 := n0_;have BK534 := n1_;have HB := n2_;clear n0_ n1_ n2_;(try clear hb);(try clear hb2);(try clear hk);(try clear hi);(try clear ho0)) | ((with_reducible refine gate_callee (f := 22) rfl ?_);refine goesL_ (some 28) rfl rfl Tryd.func22 (by kernel_rfl) rfl #[.slice A1 l1.length c1] rfl mM ?_;(with_reducible refine (laws_toIntSS.calls k _ _ l1 t541 _ ?side1 ?side2 A15.out).mono ?_);(case side1 => exact cP (Kd.C_below HR1.out HB.out));(case side2 => exact HC1.out);rintro e w26 ⟨v542, rfl, ho0, hb⟩;refine ⟨_, rfl, ?_⟩;have n0_ := Aside0.mk (Kd.R_below (by exact rP HO540.out) hb);have n1_ := Aside0.mk (Kd.S_lower ho0 (below_size (by exact bB)));have n2_ := Aside0.mk (blk_below (g := gb534) (o := .cells #[.int .i64 a0_0, .slice A0_1 l0_1.length c0_1] 24 (0, 0)) (by exact kP BK534.out) hb);have n3_ := Aside0.mk (below_step (by exact bB) hb);clear HO540;clear BK534;clear HB;have HO540 := n0_;have HO543 := n1_;have BK534 := n2_;have HB := n3_;clear n0_ n1_ n2_ n3_;(try clear hb);(try clear hb2);(try clear hk);(try clear hi);(try clear ho0);obtain ⟨Ao27, co27, eo27⟩ := Kd.R_slice HO540.out;subst eo27;obtain ⟨Ao28, co28, eo28⟩ := Kd.S_slice HO543.out;subst eo28) | ((with_reducible refine gate_callee (f := 21) rfl ?_);refine goesL_ (some 30) rfl rfl Tryd.func21 (by kernel_rfl) rfl #[.agg #[.int .i64 t537, .slice Ao27 t538.length co27], .slice Ao28 t541.length co28, .bool a2] rfl mM ?_;(with_reducible refine (spec_IsEternalFamily.calls k t537 _ _ t538 _ _ t541 a2 t544 t545 _ ?side1 ?side2 ?side3 ?side4 A16.out).mono ?_);(case side1 => exact cP (Kd.R_reads' HO540.out).2.2);(case side2 => exact (Kd.R_reads' HO540.out).2.1);(case side3 => exact cP (Kd.S_reads' HO543.out).2.2);(case side4 => exact (Kd.S_reads' HO543.out).2.1);rintro e w29 ⟨rfl, hb⟩;refine ⟨_, rfl, ?_⟩;have n0_ := Aside0.mk (Kd.R_below (by exact rP HO540.out) hb);have n1_ := Aside0.mk (Kd.S_below (by (with_reducible repeat (first | apply Kd.S_alloc | apply Kd.S_drewN | apply Kd.S_drew));exact HO543.out) hb);have n2_ := Aside0.mk (blk_below (g := gb534) (o := .cells #[.int .i64 a0_0, .slice A0_1 l0_1.length c0_1] 24 (0, 0)) (by exact kP BK534.out) hb);have n3_ := Aside0.mk (below_step (by exact bB) hb);clear HO540;clear HO543;clear BK534;clear HB;have HO540 := n0_;have HO543 := n1_;have BK534 := n2_;have HB := n3_;clear n0_ n1_ n2_ n3_;(try clear hb);(try clear hb2);(try clear hk);(try clear hi);have hcz30_0 : w29.cell? ⟨gb534, 0, none⟩ = some (.int .i64 a0_0) := (blk_cell BK534.out 0).trans rfl;have hcz30_1 : w29.cell? ⟨gb534, 1, none⟩ = some (.slice A0_1 l0_1.length c0_1) := (blk_cell BK534.out 1).trans rfl;have hfz30_0 := blk_frozen BK534.out 0;have hfz30_1 := blk_frozen BK534.out 1) | ((with_reducible refine gate_callee (f := 13) rfl ?_);refine goesL_ (some 34) rfl rfl Tryd.func13 (by kernel_rfl) rfl #[.agg #[.int .i64 a0_0, .slice A0_1 l0_1.length c0_1]] rfl mM ?_;(with_reducible refine (laws_toGraph.calls k a0_0 _ _ l0_1 t546 t547 _ ?side1 ?side2 A17.out).mono ?_);(case side1 => exact cP (Kd.C_below HR0_1.out HB.out));(case side2 => exact HC0_1.out);rintro e w31 ⟨v548, rfl, ho0, hb⟩;refine ⟨_, rfl, ?_⟩;have n0_ := Aside0.mk (Kd.R_elder' (by exact rP HO540.out) (Kd.R_base ho0) hb);have n1_ := Aside0.mk (Kd.S_below (by (with_reducible repeat (first | apply Kd.S_alloc | apply Kd.S_drewN | apply Kd.S_drew));exact HO543.out) hb);have n2_ := Aside0.mk (Kd.R_lower (Kd.R_new' ho0 (Kd.R_lt (by exact rP HO540.out))) (below_size (by exact bB)));have n3_ := Aside0.mk (blk_below (g := gb534) (o := .cells #[.int .i64 a0_0, .slice A0_1 l0_1.length c0_1] 24 (0, 0)) (by exact kP BK534.out) hb);have n4_ := Aside0.mk (below_step (by exact bB) hb);clear HO540;clear HO543;clear BK534;clear HB;have HO540 := n0_;have HO543 := n1_;have HO549 := n2_;have BK534 := n3_;have HB := n4_;clear n0_ n1_ n2_ n3_ n4_;(try clear hb);(try clear hb2);(try clear hk);(try clear hi);(try clear ho0)) | ((with_reducible refine gate_dst (N := 10) rfl ?_);refine box_event ?hg (N := 10) ?hd (cs := #[.int .i64 0, .slice none 0 0]) (t := 28) ?hr ?_;(case hd => rfl);(case hg => rfl);(case hr => first | (go_simp;done) | (go_simp;rfl));intro gb550 hg w32 hbox hb;have n0_ := Aside0.mk (Kd.R_below (by exact rP HO540.out) hb);have n1_ := Aside0.mk (Kd.S_below (by (with_reducible repeat (first | apply Kd.S_alloc | apply Kd.S_drewN | apply Kd.S_drew));exact HO543.out) hb);have n2_ := Aside0.mk (Kd.R_below (by exact rP HO549.out) hb);have n3_ := Aside0.mk (blk_below (g := gb534) (o := .cells #[.int .i64 a0_0, .slice A0_1 l0_1.length c0_1] 24 (0, 0)) (by exact kP BK534.out) hb);have n4_ := Aside0.mk (below_step (by exact bB) hb);have n5_ := Aside0.mk (hbox);have n6_ := Aside0.mk ((by rw [hg];exact (below_size (by exact bB)) : w.heap.size ≤ gb550));have n7_ := Aside0.mk ((by rw [hg];exact (below_size (by exact bB)) : w.heap.size ≤ gb550));have n8_ := Aside0.mk ((by rw [hg];exact Nat.ne_of_lt (blk_lt (g := gb534) (o := .cells #[.int .i64 a0_0, .slice A0_1 l0_1.length c0_1] 24 (0, 0)) (by exact kP BK534.out)) : gb534 ≠ gb550));have n9_ := Aside0.mk ((by rw [hg];exact Nat.ne_of_gt (blk_lt (g := gb534) (o := .cells #[.int .i64 a0_0, .slice A0_1 l0_1.length c0_1] 24 (0, 0)) (by exact kP BK534.out)) : gb550 ≠ gb534));clear HO540;clear HO543;clear HO549;clear BK534;clear HB;have HO540 := n0_;have HO543 := n1_;have HO549 := n2_;have BK534 := n3_;have HB := n4_;have BK550 := n5_;have GW550 := n6_;have GE550 := n7_;have NB534_550 := n8_;have NB550_534 := n9_;clear n0_ n1_ n2_ n3_ n4_ n5_ n6_ n7_ n8_ n9_;clear hb hbox hg;have hnb33 := NB550_534.out;have hnc33 := NB534_550.out;have hcz34_0 : w32.cell? ⟨gb550, 0, none⟩ = some (.int .i64 0) := (blk_cell BK550.out 0).trans rfl;have hcz34_1 : w32.cell? ⟨gb550, 1, none⟩ = some (.slice none 0 0) := (blk_cell BK550.out 1).trans rfl;have hfz34_0 := blk_frozen BK550.out 0;have hfz34_1 := blk_frozen BK550.out 1;obtain ⟨Ao35, co35, eo35⟩ := Kd.R_slice HO549.out;subst eo35) | ((with_reducible refine gate_callee (f := 22) rfl ?_);refine goesL_ (some 36) rfl rfl Tryd.func22 (by kernel_rfl) rfl #[.slice A1 l1.length c1] rfl mM ?_;(with_reducible refine (laws_toIntSS.calls k _ _ l1 t551 _ ?side1 ?side2 A18.out).mono ?_);(case side1 => exact Kd.C_below HR1.out (by exact bB));(case side2 => exact HC1.out);rintro e w36 ⟨v552, rfl, ho0, hb⟩;refine ⟨_, rfl, ?_⟩;have n0_ := Aside0.mk (Kd.R_below (by exact rP ((Kd.R_mono (Kd.R_far (p := ⟨gb550, 1, none⟩) (Kd.R_far (p := ⟨gb550, 0, none⟩) (Kd.R_types HO540.out BK550.out (by decide)) (fun _ hk => hk.2) (.int .i64 t546)) (fun _ hk => hk.2) (.slice Ao35 t547.length co35)) (fun _ h_ => h_.1)))) hb);have n1_ := Aside0.mk (Kd.S_elder' (by (with_reducible repeat (first | apply Kd.S_alloc | apply Kd.S_drewN | apply Kd.S_drew));exact (Kd.S_mono (Kd.S_far (p := ⟨gb550, 1, none⟩) (Kd.S_far (p := ⟨gb550, 0, none⟩) (Kd.S_types HO543.out BK550.out (by decide)) (fun _ hk => hk.2) (.int .i64 t546)) (fun _ hk => hk.2) (.slice Ao35 t547.length co35)) (fun _ h_ => h_.1))) (Kd.S_base ho0) hb);have n2_ := Aside0.mk (Kd.R_below (by exact rP ((Kd.R_mono (Kd.R_far (p := ⟨gb550, 1, none⟩) (Kd.R_far (p := ⟨gb550, 0, none⟩) (Kd.R_types HO549.out BK550.out (by decide)) (fun _ hk => hk.2) (.int .i64 t546)) (fun _ hk => hk.2) (.slice Ao35 t547.length co35)) (fun _ h_ => h_.1)))) hb);have n3_ := Aside0.mk (Kd.S_lower (Kd.S_new' ho0 (Kd.S_lt (by (with_reducible repeat (first | apply Kd.S_alloc | apply Kd.S_drewN | apply Kd.S_drew));exact (Kd.S_mono (Kd.S_far (p := ⟨gb550, 1, none⟩) (Kd.S_far (p := ⟨gb550, 0, none⟩) (Kd.S_types HO543.out BK550.out (by decide)) (fun _ hk => hk.2) (.int .i64 t546)) (fun _ hk => hk.2) (.slice Ao35 t547.length co35)) (fun _ h_ => h_.1))))) (below_size (by exact bB)));have n4_ := Aside0.mk (blk_below (g := gb534) (o := .cells #[.int .i64 a0_0, .slice A0_1 l0_1.length c0_1] 24 (0, 0)) (by refine kP ?_;refine blk_far ?_ NB534_550.out _;refine kP ?_;refine blk_far ?_ NB534_550.out _;exact kP BK534.out) hb);have n5_ := Aside0.mk (blk_below (g := gb550) (o := .cells #[.int .i64 t546, .slice Ao35 t547.length co35] 28 (0, 0)) (by refine kP ?_;refine blk_put (cs := #[.int .i64 t546, .slice none 0 0]) ?_ 1 _ rfl;refine kP ?_;refine blk_put (cs := #[.int .i64 0, .slice none 0 0]) ?_ 0 _ rfl;exact kP BK550.out) hb);have n6_ := Aside0.mk (below_step (by exact bB) hb);clear HO540;clear HO543;clear HO549;clear BK534;clear BK550;clear HB;have HO540 := n0_;have HO543 := n1_;have HO549 := n2_;have HO553 := n3_;have BK534 := n4_;have BK550 := n5_;have HB := n6_;clear n0_ n1_ n2_ n3_ n4_ n5_ n6_;(try clear hb);(try clear hb2);(try clear hk);(try clear hi);(try clear ho0);have hcz37_0 : w36.cell? ⟨gb550, 0, none⟩ = some (.int .i64 t546) := (blk_cell BK550.out 0).trans rfl;have hcz37_1 : w36.cell? ⟨gb550, 1, none⟩ = some (.slice Ao35 t547.length co35) := (blk_cell BK550.out 1).trans rfl;have hfz37_0 := blk_frozen BK550.out 0;have hfz37_1 := blk_frozen BK550.out 1;obtain ⟨Ao38, co38, eo38⟩ := Kd.S_slice HO553.out;subst eo38) | ((with_reducible refine gate_callee (f := 23) rfl ?_);refine goesL_ (some 41) rfl rfl Tryd.func23 (by kernel_rfl) rfl #[.agg #[.int .i64 t546, .slice Ao35 t547.length co35], .slice Ao38 t551.length co38, .bool a2] rfl mM ?_;(with_reducible refine (impl_IsEternalFamily.calls k t546 _ _ t547 _ _ t551 a2 t554 t555 _ ?sideT ?side1 ?side2 ?side3 ?side4 A19.out).mono ?_);(case sideT => exact tabG_below HT.out (by exact bB));(case side1 => exact cP (Kd.R_reads' HO549.out).2.2);(case side2 => exact (Kd.R_reads' HO549.out).2.1);(case side3 => exact cP (Kd.S_reads' HO553.out).2.2);(case side4 => exact (Kd.S_reads' HO553.out).2.1);rintro e w39 ⟨rfl, hb⟩;refine ⟨_, rfl, ?_⟩;have n0_ := Aside0.mk (Kd.R_below (by exact rP HO540.out) hb);have n1_ := Aside0.mk (Kd.S_below (by (with_reducible repeat (first | apply Kd.S_alloc | apply Kd.S_drewN | apply Kd.S_drew));exact HO543.out) hb);have n2_ := Aside0.mk (Kd.R_below (by exact rP HO549.out) hb);have n3_ := Aside0.mk (Kd.S_below (by (with_reducible repeat (first | apply Kd.S_alloc | apply Kd.S_drewN | apply Kd.S_drew));exact HO553.out) hb);have n4_ := Aside0.mk (blk_below (g := gb534) (o := .cells #[.int .i64 a0_0, .slice A0_1 l0_1.length c0_1] 24 (0, 0)) (by exact kP BK534.out) hb);have n5_ := Aside0.mk (blk_below (g := gb550) (o := .cells #[.int .i64 t546, .slice Ao35 t547.length co35] 28 (0, 0)) (by exact kP BK550.out) hb);have n6_ := Aside0.mk (below_step (by exact bB) hb);clear HO540;clear HO543;clear HO549;clear HO553;clear BK534;clear BK550;clear HB;have HO540 := n0_;have HO543 := n1_;have HO549 := n2_;have HO553 := n3_;have BK534 := n4_;have BK550 := n5_;have HB := n6_;clear n0_ n1_ n2_ n3_ n4_ n5_ n6_;(try clear hb);(try clear hb2);(try clear hk);(try clear hi)))
   (try simp only [Act.put, List.setIfInBounds_toArray, List.set_cons_zero, List.set_cons_succ])
   go_cut [51] (fun v51 wc => ∃ (kq : Nat) (x51_19 : Bool), v51 = .bool x51_19 ∧ Aside0 (laws_FnExactIsEternalFamily.j0 kq l1 t551 x51_19 a0_0 l0_1 t546 t547 = some r) ∧ Aside0 (kq ≤ k) ∧ Aside0 (Kd.S (Kd.slice 3 (Kd.int .i64)) 32 wc w.heap.size (fun _ => True) (.slice Ao38 t551.length co38) t551) ∧ Aside0 (Kd.R k92 92 wc w.heap.size (fun _ => True) (.slice Ao35 t547.length co35) t547) ∧ Aside0 (wc.heap[gb534]? = some (.cells #[.int .i64 a0_0, (.slice A0_1 l0_1.length c0_1)] 24 (0, 0))) ∧ Aside0 (wc.heap[gb550]? = some (.cells #[.int .i64 t546, (.slice Ao35 t547.length co35)] 28 (0, 0))) ∧ Aside0 (Below w.heap.size w wc))
   case first =>
    have H := HC20.out
    clear HC20
    by_cases c40 : (t554 != t544) = true
    ·rw [if_pos c40] at H
     have c40b0 : (t554 != t544) = true := c40
     (try (have c40b1 : decide (t554 = t544) = false := by simpa using c40))
     (try (have c40b2 : (t554 == t544) = false := by simpa using c40))
     (try (have c40b3 : ¬ (t554 = t544) := by simpa using c40))
     clear c40
     (first | rw [c40b0] | (simp only [i64_w, i32_w];rw [c40b0]) | skip)
     have H' := Aside0.mk H
     clear H
     go_wp2
     go_meet
     case rel => exact ⟨_, (true), (by first | rfl | (simp;done) | (simp [*];done)), H', ⟨by first | omega | exact Nat.le_refl _⟩, ⟨by (with_reducible repeat (first | apply Kd.S_alloc | apply Kd.S_drewN | apply Kd.S_drew));exact Kd.S_mono HO553.out (fun _ hk => trivial)⟩, ⟨by refine rP ?_;exact Kd.R_mono HO549.out (fun _ hk => trivial)⟩, ⟨by exact kP BK534.out⟩, ⟨by exact kP BK550.out⟩, ⟨by exact bB⟩⟩
    ·rw [if_neg c40] at H
     have c40b0 : (t554 != t544) = false := by simpa using c40
     (try (have c40b1 : decide (t554 = t544) = true := by simpa using c40))
     (try (have c40b2 : (t554 == t544) = true := by simpa using c40))
     clear c40
     (first | rw [c40b0] | (simp only [i64_w, i32_w];rw [c40b0]) | skip)
     have H' := Aside0.mk H
     clear H
     go_wp2
     go_meet
     case rel => exact ⟨_, ((t555 != t545)), (by first | rfl | (simp;done) | (simp [*];done)), H', ⟨by first | omega | exact Nat.le_refl _⟩, ⟨by (with_reducible repeat (first | apply Kd.S_alloc | apply Kd.S_drewN | apply Kd.S_drew));exact Kd.S_mono HO553.out (fun _ hk => trivial)⟩, ⟨by refine rP ?_;exact Kd.R_mono HO549.out (fun _ hk => trivial)⟩, ⟨by exact kP BK534.out⟩, ⟨by exact kP BK550.out⟩, ⟨by exact bB⟩⟩
   case rest =>
    clear HC20
    try clear c1
    try clear c2
    try clear p2
    try clear c3
    try clear c4
    try clear c5
    try clear c5b0
    try clear c10
    try clear c10b0
    try clear c11
    try clear c13
    try clear c20
    try clear c21
    try clear c22
    try clear c23
    try clear c33
    try clear c40
    try clear c40b0
    try clear c40b1
    try clear c40b2
    try clear hcz12_0
    try clear hcz12_1
    try clear hcz22_0
    try clear hcz22_1
    try clear hcz24_0
    try clear hcz24_1
    try clear hcz30_0
    try clear hcz30_1
    try clear hcz34_0
    try clear hcz34_1
    try clear hcz37_0
    try clear hcz37_1
    try clear hcz7_0
    try clear hcz7_1
    try clear hfz12_0
    try clear hfz12_1
    try clear hfz22_0
    try clear hfz22_1
    try clear hfz24_0
    try clear hfz24_1
    try clear hfz30_0
    try clear hfz30_1
    try clear hfz34_0
    try clear hfz34_1
    try clear hfz37_0
    try clear hfz37_1
    try clear hfz7_0
    try clear hfz7_1
    obtain ⟨kq, x51_19, rfl, HA, HJ19, HO_11, HO_551001, BK534, BK550, HB⟩ := hcut
    cases kq with
    | zero => exact absurd HA.out (by simp [laws_FnExactIsEternalFamily.j0])
    | succ kj19 =>
     have H := HA.out
     clear HA
     simp only [laws_FnExactIsEternalFamily.j0] at H
     by_cases c41 : x51_19 = true
     ·subst c41
      have H1 : (some false) = some r := by rw [if_pos rfl] at H;exact H
      clear H
      have H := H1
      clear H1
      obtain rfl := Option.some.inj H
      go_wp2
      go_ret
      exact ⟨by first | rfl | (simp [errW_none, errW_some] <;> rfl) | (simp [*, errW_none, errW_some] <;> rfl), by exact bB⟩
     ·replace c41 := Bool.eq_false_iff.mpr c41
      subst c41
      have H1 : ((laws_toGraph.f kj19 a0_0 l0_1).bind fun bt556 => ((laws_eqGraph.f kj19 t546 t547 bt556.1 bt556.2).bind fun t560 => (if t560 = true then ((laws_toIntSS.f kj19 l1).bind fun t561 => ((laws_eqIntSS.f kj19 t551 t561).bind fun t564 => (if t564 = true then (some true) else (some false)))) else (some false)))) = some r := by rw [if_neg (show ¬ (false = true) by decide)] at H;exact H
      clear H
      have H := H1
      clear H1
      replace H := Option.bind_eq_some_iff.mp H
      obtain ⟨⟨t556, t557⟩, A420, H⟩ := H
      replace H : ((laws_eqGraph.f kj19 t546 t547 t556 t557).bind fun t560 => (if t560 = true then ((laws_toIntSS.f kj19 l1).bind fun t561 => ((laws_eqIntSS.f kj19 t551 t561).bind fun t564 => (if t564 = true then (some true) else (some false)))) else (some false))) = some r := H
      have A42 := Aside0.mk A420
      clear A420
      replace H := Option.bind_eq_some_iff.mp H
      obtain ⟨t560, A430, H⟩ := H
      replace H : (if t560 = true then ((laws_toIntSS.f kj19 l1).bind fun t561 => ((laws_eqIntSS.f kj19 t551 t561).bind fun t564 => (if t564 = true then (some true) else (some false)))) else (some false)) = some r := H
      have A43 := Aside0.mk A430
      clear A430
      by_cases c44 : t560 = true
      ·subst c44
       have H1 : ((laws_toIntSS.f kj19 l1).bind fun t561 => ((laws_eqIntSS.f kj19 t551 t561).bind fun t564 => (if t564 = true then (some true) else (some false)))) = some r := by rw [if_pos rfl] at H;exact H
       clear H
       have H := H1
       clear H1
       replace H := Option.bind_eq_some_iff.mp H
       obtain ⟨t561, A450, H⟩ := H
       replace H : ((laws_eqIntSS.f kj19 t551 t561).bind fun t564 => (if t564 = true then (some true) else (some false))) = some r := H
       have A45 := Aside0.mk A450
       clear A450
       replace H := Option.bind_eq_some_iff.mp H
       obtain ⟨t564, A460, H⟩ := H
       replace H : (if t564 = true then (some true) else (some false)) = some r := H
       have A46 := Aside0.mk A460
       clear A460
       by_cases c47 : t564 = true
       ·subst c47
        have H1 : (some true) = some r := by rw [if_pos rfl] at H;exact H
        clear H
        have H := H1
        clear H1
        obtain rfl := Option.some.inj H
        try go_wp2
        have n0_ := Aside0.mk (Kd.S_drew HO_11.out)
        have n1_ := Aside0.mk (Kd.R_drew HO_551001.out)
        have n2_ := Aside0.mk (blk_drew BK534.out)
        have n3_ := Aside0.mk (blk_drew BK550.out)
        have n4_ := Aside0.mk (below_drew1 HB.out)
        clear HO_11
        clear HO_551001
        clear BK534
        clear BK550
        clear HB
        have HO_11 := n0_
        have HO_551001 := n1_
        have BK534 := n2_
        have BK550 := n3_
        have HB := n4_
        clear n0_ n1_ n2_ n3_ n4_
        refine start_ (n := 5) (S := fun w' => w'.cell? ⟨gb550, 0, none⟩ = some (.int .i64 t546) ∧ w'.cell? ⟨gb550, 1, none⟩ = some (.slice Ao35 t547.length co35) ∧ w'.cell? ⟨gb534, 0, none⟩ = some (.int .i64 a0_0) ∧ w'.cell? ⟨gb534, 1, none⟩ = some (.slice A0_1 l0_1.length c0_1)) (ds := []) #[false,false,false,false,false] (by kernel_rfl) rfl rfl ⟨(blk_cell BK550.out 0).trans rfl, (blk_cell BK550.out 1).trans rfl, (blk_cell BK534.out 0).trans rfl, (blk_cell BK534.out 1).trans rfl⟩ (fun hHeld => ?_)
        generalize wc.drew = w48 at HO_11 HO_551001 BK534 BK550 HB hHeld ⊢
        refine take_ (i := 0) (N := some 52) (v := ?_) (a' := ?_) #[true,false,false,false,false] rfl rfl (by kernel_rfl) (fun _ _ _ h => h) (Or.inl ⟨by rfl, ?_⟩) hHeld ?_ ?_
        rotate_left
        ·rintro w' ⟨s0, s1, s2, s3⟩
         go_simp
         with_reducible rfl
        rotate_left
        ·simp only [Act.put, List.setIfInBounds_toArray, List.set_cons_zero, List.set_cons_succ, i64_w, i32_w]
         rfl
        refine take_ (i := 1) (N := some 53) (v := ?_) (a' := ?_) #[true,true,false,false,false] rfl rfl (by kernel_rfl) (fun _ _ _ h => h) (Or.inl ⟨by rfl, ?_⟩) hHeld ?_ ?_
        rotate_left
        ·rintro w' ⟨s0, s1, s2, s3⟩
         go_simp
         with_reducible rfl
        rotate_left
        ·simp only [Act.put, List.setIfInBounds_toArray, List.set_cons_zero, List.set_cons_succ, i64_w, i32_w]
         rfl
        refine one_ (i := 2) (N := some 54) #[true,true,true,false,false] rfl rfl (by kernel_rfl) (by decide) (fun K hK => ?_)
        refine goes_ Tryd.func13 (by kernel_rfl) rfl #[.agg #[.int .i64 a0_0, .slice A0_1 l0_1.length c0_1]] (by rfl) rfl rfl mM ?_
        with_reducible refine (laws_toGraph.calls kj19 a0_0 _ _ l0_1 t556 t557 _ ?side1 ?side2 A42.out).mono ?_
        (case side1 => exact cP (Kd.C_below HR0_1.out HB.out))
        (case side2 => exact HC0_1.out)
        rintro e w49 ⟨v558, rfl, ho0, hb⟩
        refine ⟨_, rfl, ?_⟩
        have n0_ := Aside0.mk (Kd.S_below (by (with_reducible repeat (first | apply Kd.S_alloc | apply Kd.S_drewN | apply Kd.S_drew));exact HO_11.out) hb)
        have n1_ := Aside0.mk (Kd.R_elder' (by exact rP HO_551001.out) (Kd.R_base ho0) hb)
        have n2_ := Aside0.mk (Kd.R_lower (Kd.R_new' ho0 (Kd.R_lt (by exact rP HO_551001.out))) (below_size (by exact bB)))
        have n3_ := Aside0.mk (blk_below (g := gb534) (o := .cells #[.int .i64 a0_0, .slice A0_1 l0_1.length c0_1] 24 (0, 0)) (by exact kP BK534.out) hb)
        have n4_ := Aside0.mk (blk_below (g := gb550) (o := .cells #[.int .i64 t546, .slice Ao35 t547.length co35] 28 (0, 0)) (by exact kP BK550.out) hb)
        have n5_ := Aside0.mk (below_step (by exact bB) hb)
        clear HO_11
        clear HO_551001
        clear BK534
        clear BK550
        clear HB
        have HO_11 := n0_
        have HO_551001 := n1_
        have HO559 := n2_
        have BK534 := n3_
        have BK550 := n4_
        have HB := n5_
        clear n0_ n1_ n2_ n3_ n4_ n5_
        (try clear hb)
        (try clear hb2)
        (try clear hk)
        (try clear hi)
        (try clear ho0)
        obtain ⟨Ao50, co50, eo50⟩ := Kd.R_slice HO559.out
        (first | subst eo50 | (injection eo50 with f1_ f2_ f3_;have f4_ := f1_.symm;have f5_ := f3_.symm;clear f1_ f2_ f3_;subst f4_;subst f5_))
        refine hK.out _ _ ⟨(blk_cell BK550.out 0).trans rfl, (blk_cell BK550.out 1).trans rfl, (blk_cell BK534.out 0).trans rfl, (blk_cell BK534.out 1).trans rfl⟩ (fun hHeld => ?_)
        clear hK K
        refine norm_ (a' := ?_) ?_ ?_
        rotate_left
        ·show Act.put _ (some 54) _ = _
         simp only [Act.put, List.setIfInBounds_toArray, List.set_cons_zero, List.set_cons_succ, i64_w, i32_w]
         rfl
        refine one_ (i := 3) (N := some 55) #[true,true,true,true,false] rfl rfl (by kernel_rfl) (by decide) (fun K hK => ?_)
        refine goes_ Tryd.func15 (by kernel_rfl) rfl #[.agg #[.int .i64 t546, .slice Ao35 t547.length co35], .agg #[.int .i64 t556, .slice Ao50 t557.length co50]] (by rfl) rfl rfl mM ?_
        with_reducible refine (laws_eqGraph.calls kj19 t546 _ _ t547 t556 _ _ t557 true _ ?side1 ?side2 ?side3 ?side4 A43.out).mono ?_
        (case side1 => exact cP (Kd.R_reads' HO_551001.out).2.2)
        (case side2 => exact (Kd.R_reads' HO_551001.out).2.1)
        (case side3 => exact cP (Kd.R_reads' HO559.out).2.2)
        (case side4 => exact (Kd.R_reads' HO559.out).2.1)
        rintro e w51 ⟨rfl, hb⟩
        refine ⟨_, rfl, ?_⟩
        have n0_ := Aside0.mk (Kd.S_below (by (with_reducible repeat (first | apply Kd.S_alloc | apply Kd.S_drewN | apply Kd.S_drew));exact HO_11.out) hb)
        have n1_ := Aside0.mk (Kd.R_below (by exact rP HO_551001.out) hb)
        have n2_ := Aside0.mk (Kd.R_below (by exact rP HO559.out) hb)
        have n3_ := Aside0.mk (blk_below (g := gb534) (o := .cells #[.int .i64 a0_0, .slice A0_1 l0_1.length c0_1] 24 (0, 0)) (by exact kP BK534.out) hb)
        have n4_ := Aside0.mk (blk_below (g := gb550) (o := .cells #[.int .i64 t546, .slice Ao35 t547.length co35] 28 (0, 0)) (by exact kP BK550.out) hb)
        have n5_ := Aside0.mk (below_step (by exact bB) hb)
        clear HO_11
        clear HO_551001
        clear HO559
        clear BK534
        clear BK550
        clear HB
        have HO_11 := n0_
        have HO_551001 := n1_
        have HO559 := n2_
        have BK534 := n3_
        have BK550 := n4_
        have HB := n5_
        clear n0_ n1_ n2_ n3_ n4_ n5_
        (try clear hb)
        (try clear hb2)
        (try clear hk)
        (try clear hi)
        refine hK.out _ _ ⟨(blk_cell BK550.out 0).trans rfl, (blk_cell BK550.out 1).trans rfl, (blk_cell BK534.out 0).trans rfl, (blk_cell BK534.out 1).trans rfl⟩ (fun hHeld => ?_)
        clear hK K
        refine norm_ (a' := ?_) ?_ ?_
        rotate_left
        ·show Act.put _ (some 55) _ = _
         simp only [Act.put, List.setIfInBounds_toArray, List.set_cons_zero, List.set_cons_succ, i64_w, i32_w]
         rfl
        refine pure_ (i := 4) (N := some 56) (v := ?_) (a' := ?_) #[true,true,true,true,true] rfl rfl (by kernel_rfl) (fun _ _ _ h => h) (Or.inl ⟨by rfl, ?_⟩) ?_ ?_
        rotate_left
        ·intro w'
         go_simp
         with_reducible rfl
        rotate_left
        ·simp only [Act.put, List.setIfInBounds_toArray, List.set_cons_zero, List.set_cons_succ, i64_w, i32_w]
         rfl
        refine done_ (by kernel_rfl) ?_
        try go_wp2_with (first | ((with_reducible refine gate_callee (f := 22) rfl ?_);refine goesL_ (some 59) rfl rfl Tryd.func22 (by kernel_rfl) rfl #[.slice A1 l1.length c1] rfl mM ?_;(with_reducible refine (laws_toIntSS.calls kj19 _ _ l1 t561 _ ?side1 ?side2 A45.out).mono ?_);(case side1 => exact cP (Kd.C_below HR1.out HB.out));(case side2 => exact HC1.out);rintro e w52 ⟨v562, rfl, ho0, hb⟩;refine ⟨_, rfl, ?_⟩;have n0_ := Aside0.mk (Kd.S_elder' (by (with_reducible repeat (first | apply Kd.S_alloc | apply Kd.S_drewN | apply Kd.S_drew));exact HO_11.out) (Kd.S_base ho0) hb);have n1_ := Aside0.mk (Kd.R_below (by exact rP HO_551001.out) hb);have n2_ := Aside0.mk (Kd.R_below (by exact rP HO559.out) hb);have n3_ := Aside0.mk (Kd.S_lower (Kd.S_new' ho0 (Kd.S_lt (by (with_reducible repeat (first | apply Kd.S_alloc | apply Kd.S_drewN | apply Kd.S_drew));exact HO_11.out))) (below_size (by exact bB)));have n4_ := Aside0.mk (blk_below (g := gb534) (o := .cells #[.int .i64 a0_0, .slice A0_1 l0_1.length c0_1] 24 (0, 0)) (by exact kP BK534.out) hb);have n5_ := Aside0.mk (blk_below (g := gb550) (o := .cells #[.int .i64 t546, .slice Ao35 t547.length co35] 28 (0, 0)) (by exact kP BK550.out) hb);have n6_ := Aside0.mk (below_step (by exact bB) hb);clear HO_11;clear HO_551001;clear HO559;clear BK534;clear BK550;clear HB;have HO_11 := n0_;have HO_551001 := n1_;have HO559 := n2_;have HO563 := n3_;have BK534 := n4_;have BK550 := n5_;have HB := n6_;clear n0_ n1_ n2_ n3_ n4_ n5_ n6_;(try clear hb);(try clear hb2);(try clear hk);(try clear hi);(try clear ho0);obtain ⟨Ao53, co53, eo53⟩ := Kd.S_slice HO563.out;subst eo53) | ((with_reducible refine gate_callee (f := 24) rfl ?_);refine goesL_ (some 60) rfl rfl Tryd.func24 (by kernel_rfl) rfl #[.slice Ao38 t551.length co38, .slice Ao53 t561.length co53] rfl mM ?_;(with_reducible refine (laws_eqIntSS.calls kj19 _ _ t551 _ _ t561 true _ ?side1 ?side2 ?side3 ?side4 A46.out).mono ?_);(case side1 => exact cP (Kd.S_reads' HO_11.out).2.2);(case side2 => exact (Kd.S_reads' HO_11.out).2.1);(case side3 => exact cP (Kd.S_reads' HO563.out).2.2);(case side4 => exact (Kd.S_reads' HO563.out).2.1);rintro e w' ⟨rfl, ⟨nd, rfl⟩⟩;refine ⟨_, rfl, ?_⟩))
        go_ret
        exact ⟨by first | rfl | (simp [errW_none, errW_some] <;> rfl) | (simp [*, errW_none, errW_some] <;> rfl), by exact bB⟩
       ·replace c47 := Bool.eq_false_iff.mpr c47
        subst c47
        have H1 : (some false) = some r := by rw [if_neg (show ¬ (false = true) by decide)] at H;exact H
        clear H
        have H := H1
        clear H1
        obtain rfl := Option.some.inj H
        try go_wp2
        have n0_ := Aside0.mk (Kd.S_drew HO_11.out)
        have n1_ := Aside0.mk (Kd.R_drew HO_551001.out)
        have n2_ := Aside0.mk (blk_drew BK534.out)
        have n3_ := Aside0.mk (blk_drew BK550.out)
        have n4_ := Aside0.mk (below_drew1 HB.out)
        clear HO_11
        clear HO_551001
        clear BK534
        clear BK550
        clear HB
        have HO_11 := n0_
        have HO_551001 := n1_
        have BK534 := n2_
        have BK550 := n3_
        have HB := n4_
        clear n0_ n1_ n2_ n3_ n4_
        refine start_ (n := 5) (S := fun w' => w'.cell? ⟨gb550, 0, none⟩ = some (.int .i64 t546) ∧ w'.cell? ⟨gb550, 1, none⟩ = some (.slice Ao35 t547.length co35) ∧ w'.cell? ⟨gb534, 0, none⟩ = some (.int .i64 a0_0) ∧ w'.cell? ⟨gb534, 1, none⟩ = some (.slice A0_1 l0_1.length c0_1)) (ds := []) #[false,false,false,false,false] (by kernel_rfl) rfl rfl ⟨(blk_cell BK550.out 0).trans rfl, (blk_cell BK550.out 1).trans rfl, (blk_cell BK534.out 0).trans rfl, (blk_cell BK534.out 1).trans rfl⟩ (fun hHeld => ?_)
        generalize wc.drew = w54 at HO_11 HO_551001 BK534 BK550 HB hHeld ⊢
        refine take_ (i := 0) (N := some 52) (v := ?_) (a' := ?_) #[true,false,false,false,false] rfl rfl (by kernel_rfl) (fun _ _ _ h => h) (Or.inl ⟨by rfl, ?_⟩) hHeld ?_ ?_
        rotate_left
        ·rintro w' ⟨s0, s1, s2, s3⟩
         go_simp
         with_reducible rfl
        rotate_left
        ·simp only [Act.put, List.setIfInBounds_toArray, List.set_cons_zero, List.set_cons_succ, i64_w, i32_w]
         rfl
        refine take_ (i := 1) (N := some 53) (v := ?_) (a' := ?_) #[true,true,false,false,false] rfl rfl (by kernel_rfl) (fun _ _ _ h => h) (Or.inl ⟨by rfl, ?_⟩) hHeld ?_ ?_
        rotate_left
        ·rintro w' ⟨s0, s1, s2, s3⟩
         go_simp
         with_reducible rfl
        rotate_left
        ·simp only [Act.put, List.setIfInBounds_toArray, List.set_cons_zero, List.set_cons_succ, i64_w, i32_w]
         rfl
        refine one_ (i := 2) (N := some 54) #[true,true,true,false,false] rfl rfl (by kernel_rfl) (by decide) (fun K hK => ?_)
        refine goes_ Tryd.func13 (by kernel_rfl) rfl #[.agg #[.int .i64 a0_0, .slice A0_1 l0_1.length c0_1]] (by rfl) rfl rfl mM ?_
        with_reducible refine (laws_toGraph.calls kj19 a0_0 _ _ l0_1 t556 t557 _ ?side1 ?side2 A42.out).mono ?_
        (case side1 => exact cP (Kd.C_below HR0_1.out HB.out))
        (case side2 => exact HC0_1.out)
        rintro e w55 ⟨v558, rfl, ho0, hb⟩
        refine ⟨_, rfl, ?_⟩
        have n0_ := Aside0.mk (Kd.S_below (by (with_reducible repeat (first | apply Kd.S_alloc | apply Kd.S_drewN | apply Kd.S_drew));exact HO_11.out) hb)
        have n1_ := Aside0.mk (Kd.R_elder' (by exact rP HO_551001.out) (Kd.R_base ho0) hb)
        have n2_ := Aside0.mk (Kd.R_lower (Kd.R_new' ho0 (Kd.R_lt (by exact rP HO_551001.out))) (below_size (by exact bB)))
        have n3_ := Aside0.mk (blk_below (g := gb534) (o := .cells #[.int .i64 a0_0, .slice A0_1 l0_1.length c0_1] 24 (0, 0)) (by exact kP BK534.out) hb)
        have n4_ := Aside0.mk (blk_below (g := gb550) (o := .cells #[.int .i64 t546, .slice Ao35 t547.length co35] 28 (0, 0)) (by exact kP BK550.out) hb)
        have n5_ := Aside0.mk (below_step (by exact bB) hb)
        clear HO_11
        clear HO_551001
        clear BK534
        clear BK550
        clear HB
        have HO_11 := n0_
        have HO_551001 := n1_
        have HO559 := n2_
        have BK534 := n3_
        have BK550 := n4_
        have HB := n5_
        clear n0_ n1_ n2_ n3_ n4_ n5_
        (try clear hb)
        (try clear hb2)
        (try clear hk)
        (try clear hi)
        (try clear ho0)
        obtain ⟨Ao56, co56, eo56⟩ := Kd.R_slice HO559.out
        (first | subst eo56 | (injection eo56 with f1_ f2_ f3_;have f4_ := f1_.symm;have f5_ := f3_.symm;clear f1_ f2_ f3_;subst f4_;subst f5_))
        refine hK.out _ _ ⟨(blk_cell BK550.out 0).trans rfl, (blk_cell BK550.out 1).trans rfl, (blk_cell BK534.out 0).trans rfl, (blk_cell BK534.out 1).trans rfl⟩ (fun hHeld => ?_)
        clear hK K
        refine norm_ (a' := ?_) ?_ ?_
        rotate_left
        ·show Act.put _ (some 54) _ = _
         simp only [Act.put, List.setIfInBounds_toArray, List.set_cons_zero, List.set_cons_succ, i64_w, i32_w]
         rfl
        refine one_ (i := 3) (N := some 55) #[true,true,true,true,false] rfl rfl (by kernel_rfl) (by decide) (fun K hK => ?_)
        refine goes_ Tryd.func15 (by kernel_rfl) rfl #[.agg #[.int .i64 t546, .slice Ao35 t547.length co35], .agg #[.int .i64 t556, .slice Ao56 t557.length co56]] (by rfl) rfl rfl mM ?_
        with_reducible refine (laws_eqGraph.calls kj19 t546 _ _ t547 t556 _ _ t557 true _ ?side1 ?side2 ?side3 ?side4 A43.out).mono ?_
        (case side1 => exact cP (Kd.R_reads' HO_551001.out).2.2)
        (case side2 => exact (Kd.R_reads' HO_551001.out).2.1)
        (case side3 => exact cP (Kd.R_reads' HO559.out).2.2)
        (case side4 => exact (Kd.R_reads' HO559.out).2.1)
        rintro e w57 ⟨rfl, hb⟩
        refine ⟨_, rfl, ?_⟩
        have n0_ := Aside0.mk (Kd.S_below (by (with_reducible repeat (first | apply Kd.S_alloc | apply Kd.S_drewN | apply Kd.S_drew));exact HO_11.out) hb)
        have n1_ := Aside0.mk (Kd.R_below (by exact rP HO_551001.out) hb)
        have n2_ := Aside0.mk (Kd.R_below (by exact rP HO559.out) hb)
        have n3_ := Aside0.mk (blk_below (g := gb534) (o := .cells #[.int .i64 a0_0, .slice A0_1 l0_1.length c0_1] 24 (0, 0)) (by exact kP BK534.out) hb)
        have n4_ := Aside0.mk (blk_below (g := gb550) (o := .cells #[.int .i64 t546, .slice Ao35 t547.length co35] 28 (0, 0)) (by exact kP BK550.out) hb)
        have n5_ := Aside0.mk (below_step (by exact bB) hb)
        clear HO_11
        clear HO_551001
        clear HO559
        clear BK534
        clear BK550
        clear HB
        have HO_11 := n0_
        have HO_551001 := n1_
        have HO559 := n2_
        have BK534 := n3_
        have BK550 := n4_
        have HB := n5_
        clear n0_ n1_ n2_ n3_ n4_ n5_
        (try clear hb)
        (try clear hb2)
        (try clear hk)
        (try clear hi)
        refine hK.out _ _ ⟨(blk_cell BK550.out 0).trans rfl, (blk_cell BK550.out 1).trans rfl, (blk_cell BK534.out 0).trans rfl, (blk_cell BK534.out 1).trans rfl⟩ (fun hHeld => ?_)
        clear hK K
        refine norm_ (a' := ?_) ?_ ?_
        rotate_left
        ·show Act.put _ (some 55) _ = _
         simp only [Act.put, List.setIfInBounds_toArray, List.set_cons_zero, List.set_cons_succ, i64_w, i32_w]
         rfl
        refine pure_ (i := 4) (N := some 56) (v := ?_) (a' := ?_) #[true,true,true,true,true] rfl rfl (by kernel_rfl) (fun _ _ _ h => h) (Or.inl ⟨by rfl, ?_⟩) ?_ ?_
        rotate_left
        ·intro w'
         go_simp
         with_reducible rfl
        rotate_left
        ·simp only [Act.put, List.setIfInBounds_toArray, List.set_cons_zero, List.set_cons_succ, i64_w, i32_w]
         rfl
        refine done_ (by kernel_rfl) ?_
        try go_wp2_with (first | ((with_reducible refine gate_callee (f := 22) rfl ?_);refine goesL_ (some 59) rfl rfl Tryd.func22 (by kernel_rfl) rfl #[.slice A1 l1.length c1] rfl mM ?_;(with_reducible refine (laws_toIntSS.calls kj19 _ _ l1 t561 _ ?side1 ?side2 A45.out).mono ?_);(case side1 => exact cP (Kd.C_below HR1.out HB.out));(case side2 => exact HC1.out);rintro e w58 ⟨v562, rfl, ho0, hb⟩;refine ⟨_, rfl, ?_⟩;have n0_ := Aside0.mk (Kd.S_elder' (by (with_reducible repeat (first | apply Kd.S_alloc | apply Kd.S_drewN | apply Kd.S_drew));exact HO_11.out) (Kd.S_base ho0) hb);have n1_ := Aside0.mk (Kd.R_below (by exact rP HO_551001.out) hb);have n2_ := Aside0.mk (Kd.R_below (by exact rP HO559.out) hb);have n3_ := Aside0.mk (Kd.S_lower (Kd.S_new' ho0 (Kd.S_lt (by (with_reducible repeat (first | apply Kd.S_alloc | apply Kd.S_drewN | apply Kd.S_drew));exact HO_11.out))) (below_size (by exact bB)));have n4_ := Aside0.mk (blk_below (g := gb534) (o := .cells #[.int .i64 a0_0, .slice A0_1 l0_1.length c0_1] 24 (0, 0)) (by exact kP BK534.out) hb);have n5_ := Aside0.mk (blk_below (g := gb550) (o := .cells #[.int .i64 t546, .slice Ao35 t547.length co35] 28 (0, 0)) (by exact kP BK550.out) hb);have n6_ := Aside0.mk (below_step (by exact bB) hb);clear HO_11;clear HO_551001;clear HO559;clear BK534;clear BK550;clear HB;have HO_11 := n0_;have HO_551001 := n1_;have HO559 := n2_;have HO563 := n3_;have BK534 := n4_;have BK550 := n5_;have HB := n6_;clear n0_ n1_ n2_ n3_ n4_ n5_ n6_;(try clear hb);(try clear hb2);(try clear hk);(try clear hi);(try clear ho0);obtain ⟨Ao59, co59, eo59⟩ := Kd.S_slice HO563.out;subst eo59) | ((with_reducible refine gate_callee (f := 24) rfl ?_);refine goesL_ (some 60) rfl rfl Tryd.func24 (by kernel_rfl) rfl #[.slice Ao38 t551.length co38, .slice Ao59 t561.length co59] rfl mM ?_;(with_reducible refine (laws_eqIntSS.calls kj19 _ _ t551 _ _ t561 false _ ?side1 ?side2 ?side3 ?side4 A46.out).mono ?_);(case side1 => exact cP (Kd.S_reads' HO_11.out).2.2);(case side2 => exact (Kd.S_reads' HO_11.out).2.1);(case side3 => exact cP (Kd.S_reads' HO563.out).2.2);(case side4 => exact (Kd.S_reads' HO563.out).2.1);rintro e w' ⟨rfl, ⟨nd, rfl⟩⟩;refine ⟨_, rfl, ?_⟩))
        go_ret
        exact ⟨by first | rfl | (simp [errW_none, errW_some] <;> rfl) | (simp [*, errW_none, errW_some] <;> rfl), by exact bB⟩
      ·replace c44 := Bool.eq_false_iff.mpr c44
       subst c44
       have H1 : (some false) = some r := by rw [if_neg (show ¬ (false = true) by decide)] at H;exact H
       clear H
       have H := H1
       clear H1
       obtain rfl := Option.some.inj H
       try go_wp2
       have n0_ := Aside0.mk (Kd.S_drew HO_11.out)
       have n1_ := Aside0.mk (Kd.R_drew HO_551001.out)
       have n2_ := Aside0.mk (blk_drew BK534.out)
       have n3_ := Aside0.mk (blk_drew BK550.out)
       have n4_ := Aside0.mk (below_drew1 HB.out)
       clear HO_11
       clear HO_551001
       clear BK534
       clear BK550
       clear HB
       have HO_11 := n0_
       have HO_551001 := n1_
       have BK534 := n2_
       have BK550 := n3_
       have HB := n4_
       clear n0_ n1_ n2_ n3_ n4_
       refine start_ (n := 5) (S := fun w' => w'.cell? ⟨gb550, 0, none⟩ = some (.int .i64 t546) ∧ w'.cell? ⟨gb550, 1, none⟩ = some (.slice Ao35 t547.length co35) ∧ w'.cell? ⟨gb534, 0, none⟩ = some (.int .i64 a0_0) ∧ w'.cell? ⟨gb534, 1, none⟩ = some (.slice A0_1 l0_1.length c0_1)) (ds := []) #[false,false,false,false,false] (by kernel_rfl) rfl rfl ⟨(blk_cell BK550.out 0).trans rfl, (blk_cell BK550.out 1).trans rfl, (blk_cell BK534.out 0).trans rfl, (blk_cell BK534.out 1).trans rfl⟩ (fun hHeld => ?_)
       generalize wc.drew = w60 at HO_11 HO_551001 BK534 BK550 HB hHeld ⊢
       refine take_ (i := 0) (N := some 52) (v := ?_) (a' := ?_) #[true,false,false,false,false] rfl rfl (by kernel_rfl) (fun _ _ _ h => h) (Or.inl ⟨by rfl, ?_⟩) hHeld ?_ ?_
       rotate_left
       ·rintro w' ⟨s0, s1, s2, s3⟩
        go_simp
        with_reducible rfl
       rotate_left
       ·simp only [Act.put, List.setIfInBounds_toArray, List.set_cons_zero, List.set_cons_succ, i64_w, i32_w]
        rfl
       refine take_ (i := 1) (N := some 53) (v := ?_) (a' := ?_) #[true,true,false,false,false] rfl rfl (by kernel_rfl) (fun _ _ _ h => h) (Or.inl ⟨by rfl, ?_⟩) hHeld ?_ ?_
       rotate_left
       ·rintro w' ⟨s0, s1, s2, s3⟩
        go_simp
        with_reducible rfl
       rotate_left
       ·simp only [Act.put, List.setIfInBounds_toArray, List.set_cons_zero, List.set_cons_succ, i64_w, i32_w]
        rfl
       refine one_ (i := 2) (N := some 54) #[true,true,true,false,false] rfl rfl (by kernel_rfl) (by decide) (fun K hK => ?_)
       refine goes_ Tryd.func13 (by kernel_rfl) rfl #[.agg #[.int .i64 a0_0, .slice A0_1 l0_1.length c0_1]] (by rfl) rfl rfl mM ?_
       with_reducible refine (laws_toGraph.calls kj19 a0_0 _ _ l0_1 t556 t557 _ ?side1 ?side2 A42.out).mono ?_
       (case side1 => exact cP (Kd.C_below HR0_1.out HB.out))
       (case side2 => exact HC0_1.out)
       rintro e w61 ⟨v558, rfl, ho0, hb⟩
       refine ⟨_, rfl, ?_⟩
       have n0_ := Aside0.mk (Kd.S_below (by (with_reducible repeat (first | apply Kd.S_alloc | apply Kd.S_drewN | apply Kd.S_drew));exact HO_11.out) hb)
       have n1_ := Aside0.mk (Kd.R_elder' (by exact rP HO_551001.out) (Kd.R_base ho0) hb)
       have n2_ := Aside0.mk (Kd.R_lower (Kd.R_new' ho0 (Kd.R_lt (by exact rP HO_551001.out))) (below_size (by exact bB)))
       have n3_ := Aside0.mk (blk_below (g := gb534) (o := .cells #[.int .i64 a0_0, .slice A0_1 l0_1.length c0_1] 24 (0, 0)) (by exact kP BK534.out) hb)
       have n4_ := Aside0.mk (blk_below (g := gb550) (o := .cells #[.int .i64 t546, .slice Ao35 t547.length co35] 28 (0, 0)) (by exact kP BK550.out) hb)
       have n5_ := Aside0.mk (below_step (by exact bB) hb)
       clear HO_11
       clear HO_551001
       clear BK534
       clear BK550
       clear HB
       have HO_11 := n0_
       have HO_551001 := n1_
       have HO559 := n2_
       have BK534 := n3_
       have BK550 := n4_
       have HB := n5_
       clear n0_ n1_ n2_ n3_ n4_ n5_
       (try clear hb)
       (try clear hb2)
       (try clear hk)
       (try clear hi)
       (try clear ho0)
       obtain ⟨Ao62, co62, eo62⟩ := Kd.R_slice HO559.out
       (first | subst eo62 | (injection eo62 with f1_ f2_ f3_;have f4_ := f1_.symm;have f5_ := f3_.symm;clear f1_ f2_ f3_;subst f4_;subst f5_))
       refine hK.out _ _ ⟨(blk_cell BK550.out 0).trans rfl, (blk_cell BK550.out 1).trans rfl, (blk_cell BK534.out 0).trans rfl, (blk_cell BK534.out 1).trans rfl⟩ (fun hHeld => ?_)
       clear hK K
       refine norm_ (a' := ?_) ?_ ?_
       rotate_left
       ·show Act.put _ (some 54) _ = _
        simp only [Act.put, List.setIfInBounds_toArray, List.set_cons_zero, List.set_cons_succ, i64_w, i32_w]
        rfl
       refine one_ (i := 3) (N := some 55) #[true,true,true,true,false] rfl rfl (by kernel_rfl) (by decide) (fun K hK => ?_)
       refine goes_ Tryd.func15 (by kernel_rfl) rfl #[.agg #[.int .i64 t546, .slice Ao35 t547.length co35], .agg #[.int .i64 t556, .slice Ao62 t557.length co62]] (by rfl) rfl rfl mM ?_
       with_reducible refine (laws_eqGraph.calls kj19 t546 _ _ t547 t556 _ _ t557 false _ ?side1 ?side2 ?side3 ?side4 A43.out).mono ?_
       (case side1 => exact cP (Kd.R_reads' HO_551001.out).2.2)
       (case side2 => exact (Kd.R_reads' HO_551001.out).2.1)
       (case side3 => exact cP (Kd.R_reads' HO559.out).2.2)
       (case side4 => exact (Kd.R_reads' HO559.out).2.1)
       rintro e w63 ⟨rfl, hb⟩
       refine ⟨_, rfl, ?_⟩
       have n0_ := Aside0.mk (Kd.S_below (by (with_reducible repeat (first | apply Kd.S_alloc | apply Kd.S_drewN | apply Kd.S_drew));exact HO_11.out) hb)
       have n1_ := Aside0.mk (Kd.R_below (by exact rP HO_551001.out) hb)
       have n2_ := Aside0.mk (Kd.R_below (by exact rP HO559.out) hb)
       have n3_ := Aside0.mk (blk_below (g := gb534) (o := .cells #[.int .i64 a0_0, .slice A0_1 l0_1.length c0_1] 24 (0, 0)) (by exact kP BK534.out) hb)
       have n4_ := Aside0.mk (blk_below (g := gb550) (o := .cells #[.int .i64 t546, .slice Ao35 t547.length co35] 28 (0, 0)) (by exact kP BK550.out) hb)
       have n5_ := Aside0.mk (below_step (by exact bB) hb)
       clear HO_11
       clear HO_551001
       clear HO559
       clear BK534
       clear BK550
       clear HB
       have HO_11 := n0_
       have HO_551001 := n1_
       have HO559 := n2_
       have BK534 := n3_
       have BK550 := n4_
       have HB := n5_
       clear n0_ n1_ n2_ n3_ n4_ n5_
       (try clear hb)
       (try clear hb2)
       (try clear hk)
       (try clear hi)
       refine hK.out _ _ ⟨(blk_cell BK550.out 0).trans rfl, (blk_cell BK550.out 1).trans rfl, (blk_cell BK534.out 0).trans rfl, (blk_cell BK534.out 1).trans rfl⟩ (fun hHeld => ?_)
       clear hK K
       refine norm_ (a' := ?_) ?_ ?_
       rotate_left
       ·show Act.put _ (some 55) _ = _
        simp only [Act.put, List.setIfInBounds_toArray, List.set_cons_zero, List.set_cons_succ, i64_w, i32_w]
        rfl
       refine pure_ (i := 4) (N := some 56) (v := ?_) (a' := ?_) #[true,true,true,true,true] rfl rfl (by kernel_rfl) (fun _ _ _ h => h) (Or.inl ⟨by rfl, ?_⟩) ?_ ?_
       rotate_left
       ·intro w'
        go_simp
        with_reducible rfl
       rotate_left
       ·simp only [Act.put, List.setIfInBounds_toArray, List.set_cons_zero, List.set_cons_succ, i64_w, i32_w]
        rfl
       refine done_ (by kernel_rfl) ?_
       try go_wp2
       go_ret
       exact ⟨by first | rfl | (simp [errW_none, errW_some] <;> rfl) | (simp [*, errW_none, errW_some] <;> rfl), by exact bB⟩


end Go.Proofs.YthbjajppdomhhaaDoor.QIsEternalFamily
