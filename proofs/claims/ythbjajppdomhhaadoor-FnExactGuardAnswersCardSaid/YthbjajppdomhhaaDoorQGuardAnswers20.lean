import Derived.Test.YthbjajppdomhhaaDoorQGuardAnswers0
import Derived.Test.YthbjajppdomhhaaDoorQGuardAnswers12
import Derived.Test.YthbjajppdomhhaaDoorQGuardAnswers17
import Derived.Test.YthbjajppdomhhaaDoorQGuardAnswers18
import Derived.Test.YthbjajppdomhhaaDoorQGuardAnswers19
namespace Go.Proofs.YthbjajppdomhhaaDoor.QGuardAnswers
open Go.RowKit Go.Proofs.YthbjajppdomhhaaDoorW.PrintWords Go.Proofs.YthbjajppdomhhaaDoorW.PrintLast Go.Proofs.YthbjajppdomhhaaDoorW.PrintMore
attribute [local go_sem] max2_int min2_int max_two min_two max_three min_three max_four min_four   -- for this text's walks alone
set_option linter.unusedVariables false
set_option linter.unusedSimpArgs false
/-! ### impl_GuardAnswers: function 37 -/
def impl_GuardAnswers.l0 : Nat → List (List Int) → List Int → Int → Int → Int → List (List Int) → List (List Int) → Option ((List (List Int)) × Bool)
 | 0, _, _, _, _, _, _, _ => none
 | k + 1, x11, x30, x31, x32, x567000, x567001, x567002 => if x32 < x31 then (if 0 ≤ x32 then (if x32 < (x30.length : Int) then (if 0 ≤ (rd x30 x32) then (if (rd x30 x32) < (x567001.length : Int) then ((slices_Clone_int_int.f (rd_L2 x567001 (rd x30 x32))).bind fun t573 => (if x11.length < 5864062014805 then (impl_GuardAnswers.l0 k (x11 ++ [t573]) x30 x31 (wrap64 (x32 + 1)) x567000 x567001 x567002) else (none))) else (none)) else (none)) else (none)) else (none)) else (some (x11, true))
def impl_GuardAnswers.f (k : Nat) (a0_0 : Int) (l0_1 : List (S92)) (l1 : List Int) (a2 : Int) (a3 : Bool) : Option ((List (List Int)) × Bool) := (impl_isAttack.f k a0_0 l0_1 l1 a2).bind fun t555 => (if t555 = true then ((impl_netOf.f a0_0 l0_1).bind fun t556 => ((impl_net_guardGame.f k t556 (l1.length : Int) a3).bind fun bt559 => ((impl_valPlace.f k bt559.1 bt559.2.1 bt559.2.2 l1).bind fun t567 => ((impl_valAnswers.f bt559.1 bt559.2.1 bt559.2.2 t567 a2).bind fun t568 => (impl_GuardAnswers.l0 k ([] : List (List Int)) t568 (t568.length : Int) 0 bt559.1 bt559.2.1 bt559.2.2))))) else (some (([] : List (List Int)), false)))
theorem impl_GuardAnswers.mono_l : ∀ k, (∀ y0 y1 y2 y3 y4 y5 y6, LeO (impl_GuardAnswers.l0 k y0 y1 y2 y3 y4 y5 y6) (impl_GuardAnswers.l0 (k + 1) y0 y1 y2 y3 y4 y5 y6))
 | 0 => fun _ _ _ _ _ _ _ r h => by simp [impl_GuardAnswers.l0] at h
 | k + 1 => by
  have ih0 := impl_GuardAnswers.mono_l k
  ·intro y0 y1 y2 y3 y4 y5 y6
   unfold impl_GuardAnswers.l0
   repeat' first
   | (with_reducible exact ih0 _ _ _ _ _ _ _)
   | (with_reducible exact impl_isAttack.mono _ _ _ _ _)
   | (with_reducible exact impl_net_guardGame.mono _ _ _ _)
   | (with_reducible exact impl_valPlace.mono _ _ _ _ _)
   | (with_reducible exact LeO.refl _)
   | (with_reducible exact LeO.none _)
   | (with_reducible refine LeO.ite ?_ ?_)
   | (with_reducible refine LeO.bind ?_ (fun _ => ?_))
   | exact ih0 _ _ _ _ _ _ _
   | exact impl_isAttack.mono _ _ _ _ _
   | exact impl_net_guardGame.mono _ _ _ _
   | exact impl_valPlace.mono _ _ _ _ _
   | exact LeO.none _
   | refine LeO.ite ?_ ?_
   | refine LeO.bind ?_ (fun _ => ?_)
theorem impl_GuardAnswers.mono : ∀ a0 a1 a2 a3 a4 k, LeO (impl_GuardAnswers.f k a0 a1 a2 a3 a4) (impl_GuardAnswers.f (k + 1) a0 a1 a2 a3 a4) := by
 intro a0 a1 a2 a3 a4 k
 have ih0 := impl_GuardAnswers.mono_l k
 unfold impl_GuardAnswers.f
 repeat' first
   | (with_reducible exact ih0 _ _ _ _ _ _ _)
   | (with_reducible exact impl_isAttack.mono _ _ _ _ _)
   | (with_reducible exact impl_net_guardGame.mono _ _ _ _)
   | (with_reducible exact impl_valPlace.mono _ _ _ _ _)
   | (with_reducible exact LeO.refl _)
   | (with_reducible exact LeO.none _)
   | (with_reducible refine LeO.ite ?_ ?_)
   | (with_reducible refine LeO.bind ?_ (fun _ => ?_))
   | exact ih0 _ _ _ _ _ _ _
   | exact impl_isAttack.mono _ _ _ _ _
   | exact impl_net_guardGame.mono _ _ _ _
   | exact impl_valPlace.mono _ _ _ _ _
   | exact LeO.none _
   | refine LeO.ite ?_ ?_
   | refine LeO.bind ?_ (fun _ => ?_)
set_option maxHeartbeats 8000000 in
set_option maxRecDepth 100000 in
theorem impl_GuardAnswers.calls (k : Nat) (a0_0 : Int) (A0_1 : Option Addr) (c0_1 : Nat) (l0_1 : List (S92)) (A1 : Option Addr) (c1 : Nat) (l1 : List Int) (a2 : Int) (a3 : Bool) (r1 : List (List Int)) (r2 : Bool) (w : World) (hT : TabG w) (hr0_1 : Kd.C k92 w A0_1 l0_1.length l0_1) (hc0_1 : l0_1.length ≤ c0_1) (hr1 : Kd.C (Kd.int .i64) w A1 l1.length l1) (hc1 : l1.length ≤ c1) (h : impl_GuardAnswers.f k a0_0 l0_1 l1 a2 a3 = some (r1, r2)) :
  Calls Tryd.prog 37 #[.agg #[.int .i64 a0_0, .slice A0_1 l0_1.length c0_1], .slice A1 l1.length c1, .int .i64 a2, .bool a3] w fun e w' => ∃ v0_ : Value, e = .returned (.tuple #[v0_, .bool r2]) ∧ Kd.S (Kd.slice 3 (Kd.int .i64)) 32 w' w.heap.size (fun _ => True) v0_ r1 ∧ Below w.heap.size w w' := by
 have hu28 := Tryd.underlying28
 have hu89 := Tryd.underlying89
 have HR0_1 := Aside0.mk hr0_1
 have HC0_1 := Aside0.mk hc0_1
 clear hr0_1 hc0_1
 have HR1 := Aside0.mk hr1
 have HC1 := Aside0.mk hc1
 clear hr1 hc1
 have HB := Aside0.mk (Below.refl w.heap.size w)
 have HT := Aside0.mk hT
 clear hT
 have H : ((impl_isAttack.f k a0_0 l0_1 l1 a2).bind fun t555 => (if t555 = true then ((impl_netOf.f a0_0 l0_1).bind fun t556 => ((impl_net_guardGame.f k t556 (l1.length : Int) a3).bind fun bt559 => ((impl_valPlace.f k bt559.1 bt559.2.1 bt559.2.2 l1).bind fun t567 => ((impl_valAnswers.f bt559.1 bt559.2.1 bt559.2.2 t567 a2).bind fun t568 => (impl_GuardAnswers.l0 k ([] : List (List Int)) t568 (t568.length : Int) 0 bt559.1 bt559.2.1 bt559.2.2))))) else (some (([] : List (List Int)), false)))) = some (r1, r2) := h
 clear h
 replace H := Option.bind_eq_some_iff.mp H
 obtain ⟨t555, A50, H⟩ := H
 replace H : (if t555 = true then ((impl_netOf.f a0_0 l0_1).bind fun t556 => ((impl_net_guardGame.f k t556 (l1.length : Int) a3).bind fun bt559 => ((impl_valPlace.f k bt559.1 bt559.2.1 bt559.2.2 l1).bind fun t567 => ((impl_valAnswers.f bt559.1 bt559.2.1 bt559.2.2 t567 a2).bind fun t568 => (impl_GuardAnswers.l0 k ([] : List (List Int)) t568 (t568.length : Int) 0 bt559.1 bt559.2.1 bt559.2.2))))) else (some (([] : List (List Int)), false))) = some (r1, r2) := H
 have A5 := Aside0.mk A50
 clear A50
 by_cases c6 : t555 = true
 ·subst c6
  have H1 : ((impl_netOf.f a0_0 l0_1).bind fun t556 => ((impl_net_guardGame.f k t556 (l1.length : Int) a3).bind fun bt559 => ((impl_valPlace.f k bt559.1 bt559.2.1 bt559.2.2 l1).bind fun t567 => ((impl_valAnswers.f bt559.1 bt559.2.1 bt559.2.2 t567 a2).bind fun t568 => (impl_GuardAnswers.l0 k ([] : List (List Int)) t568 (t568.length : Int) 0 bt559.1 bt559.2.1 bt559.2.2))))) = some (r1, r2) := by rw [if_pos rfl] at H;exact H
  clear H
  have H := H1
  clear H1
  replace H := Option.bind_eq_some_iff.mp H
  obtain ⟨t556, A70, H⟩ := H
  replace H : ((impl_net_guardGame.f k t556 (l1.length : Int) a3).bind fun bt559 => ((impl_valPlace.f k bt559.1 bt559.2.1 bt559.2.2 l1).bind fun t567 => ((impl_valAnswers.f bt559.1 bt559.2.1 bt559.2.2 t567 a2).bind fun t568 => (impl_GuardAnswers.l0 k ([] : List (List Int)) t568 (t568.length : Int) 0 bt559.1 bt559.2.1 bt559.2.2)))) = some (r1, r2) := H
  have A7 := Aside0.mk A70
  clear A70
  replace H := Option.bind_eq_some_iff.mp H
  obtain ⟨⟨t559, t560, t563⟩, A80, H⟩ := H
  replace H : ((impl_valPlace.f k t559 t560 t563 l1).bind fun t567 => ((impl_valAnswers.f t559 t560 t563 t567 a2).bind fun t568 => (impl_GuardAnswers.l0 k ([] : List (List Int)) t568 (t568.length : Int) 0 t559 t560 t563))) = some (r1, r2) := H
  have A8 := Aside0.mk A80
  clear A80
  replace H := Option.bind_eq_some_iff.mp H
  obtain ⟨t567, A90, H⟩ := H
  replace H : ((impl_valAnswers.f t559 t560 t563 t567 a2).bind fun t568 => (impl_GuardAnswers.l0 k ([] : List (List Int)) t568 (t568.length : Int) 0 t559 t560 t563)) = some (r1, r2) := H
  have A9 := Aside0.mk A90
  clear A90
  replace H := Option.bind_eq_some_iff.mp H
  obtain ⟨t568, A100, H⟩ := H
  replace H : (impl_GuardAnswers.l0 k ([] : List (List Int)) t568 (t568.length : Int) 0 t559 t560 t563) = some (r1, r2) := H
  have A10 := Aside0.mk A100
  clear A100
  have H' := Aside0.mk H
  clear H
  go_enter Tryd.func37, Tryd.ntmps37
  go_wp2_with (first | ((with_reducible refine gate_dst (N := 4) rfl ?_);refine box_event ?hg (N := 4) ?hd (cs := #[.int .i64 a0_0, .slice A0_1 l0_1.length c0_1]) (t := 28) ?hr ?_;(case hd => rfl);(case hg => rfl);(case hr => first | (go_simp;done) | (go_simp;rfl));intro gb554 hg w11 hbox hb;have n0_ := Aside0.mk (below_step (by exact bB) hb);have n1_ := Aside0.mk (hbox);have n2_ := Aside0.mk ((by rw [hg];exact (below_size (by exact bB)) : w.heap.size ≤ gb554));have n3_ := Aside0.mk ((by rw [hg];exact (below_size (by exact bB)) : w.heap.size ≤ gb554));clear HB;have HB := n0_;have BK554 := n1_;have GW554 := n2_;have GE554 := n3_;clear n0_ n1_ n2_ n3_;clear hb hbox hg;have hcz12_0 : w11.cell? ⟨gb554, 0, none⟩ = some (.int .i64 a0_0) := (blk_cell BK554.out 0).trans rfl;have hcz12_1 : w11.cell? ⟨gb554, 1, none⟩ = some (.slice A0_1 l0_1.length c0_1) := (blk_cell BK554.out 1).trans rfl;have hfz12_0 := blk_frozen BK554.out 0;have hfz12_1 := blk_frozen BK554.out 1) | ((with_reducible refine gate_callee (f := 73) rfl ?_);refine goesL_ (some 17) rfl rfl Tryd.func73 (by kernel_rfl) rfl #[.agg #[.int .i64 a0_0, .slice A0_1 l0_1.length c0_1], .slice A1 l1.length c1, .int .i64 a2] rfl mM ?_;(with_reducible refine (impl_isAttack.calls k a0_0 _ _ l0_1 _ _ l1 a2 true _ ?side1 ?side2 ?side3 ?side4 A5.out).mono ?_);(case side1 => exact cP (Kd.C_below HR0_1.out HB.out));(case side2 => exact HC0_1.out);(case side3 => exact cP (Kd.C_below HR1.out HB.out));(case side4 => exact HC1.out);rintro e w13 ⟨rfl, hb⟩;refine ⟨_, rfl, ?_⟩;have n0_ := Aside0.mk (blk_below (g := gb554) (o := .cells #[.int .i64 a0_0, .slice A0_1 l0_1.length c0_1] 28 (0, 0)) (by exact kP BK554.out) hb);have n1_ := Aside0.mk (below_step (by exact bB) hb);clear BK554;clear HB;have BK554 := n0_;have HB := n1_;clear n0_ n1_;(try clear hb);(try clear hb2);(try clear hk);(try clear hi);have hcz14_0 : w13.cell? ⟨gb554, 0, none⟩ = some (.int .i64 a0_0) := (blk_cell BK554.out 0).trans rfl;have hcz14_1 : w13.cell? ⟨gb554, 1, none⟩ = some (.slice A0_1 l0_1.length c0_1) := (blk_cell BK554.out 1).trans rfl;have hfz14_0 := blk_frozen BK554.out 0;have hfz14_1 := blk_frozen BK554.out 1) | ((with_reducible refine gate_callee (f := 45) rfl ?_);refine goesL_ (some 20) rfl rfl Tryd.func45 (by kernel_rfl) rfl #[.agg #[.int .i64 a0_0, .slice A0_1 l0_1.length c0_1]] rfl mM ?_;(with_reducible refine (impl_netOf.calls a0_0 _ _ l0_1 t556 _ ?side1 ?side2 A7.out).mono ?_);(case side1 => exact cP (Kd.C_below HR0_1.out HB.out));(case side2 => exact HC0_1.out);rintro e w15 ⟨v557, rfl, ho0, hb⟩;refine ⟨_, rfl, ?_⟩;have n0_ := Aside0.mk (Kd.R_lower ho0 (below_size (by exact bB)));have n1_ := Aside0.mk (blk_below (g := gb554) (o := .cells #[.int .i64 a0_0, .slice A0_1 l0_1.length c0_1] 28 (0, 0)) (by exact kP BK554.out) hb);have n2_ := Aside0.mk (below_step (by exact bB) hb);clear BK554;clear HB;have HO558 := n0_;have BK554 := n1_;have HB := n2_;clear n0_ n1_ n2_;(try clear hb);(try clear hb2);(try clear hk);(try clear hi);(try clear ho0);obtain ⟨Ao16, co16, eo16⟩ := Kd.R_slice HO558.out;subst eo16) | ((with_reducible refine gate_callee (f := 66) rfl ?_);refine goesL_ (some 24) rfl rfl Tryd.func66 (by kernel_rfl) rfl #[.agg #[.slice Ao16 t556.length co16], .int .i64 (l1.length : Int), .bool a3] rfl mM ?_;(with_reducible refine (impl_net_guardGame.calls k _ _ t556 (l1.length : Int) a3 t559 t560 t563 _ ?sideT ?side1 ?side2 A8.out).mono ?_);(case sideT => exact tabG_below HT.out (by exact bB));(case side1 => exact cP (Kd.R_reads' HO558.out).2.2);(case side2 => exact (Kd.R_reads' HO558.out).2.1);rintro e w17 ⟨gb566, v561, v564, rfl, hbx, hge, ho0, ho1, hb⟩;refine ⟨_, rfl, ?_⟩;have GW566 := Aside0.mk (Nat.le_trans (below_size (by exact bB)) hge);have GE566 := GW566;have NB554_566 : Aside0 (gb554 ≠ gb566) := ⟨Nat.ne_of_lt (Nat.lt_of_lt_of_le (blk_lt (g := gb554) (o := .cells #[.int .i64 a0_0, .slice A0_1 l0_1.length c0_1] 28 (0, 0)) (by exact kP BK554.out)) hge)⟩;have NB566_554 : Aside0 (gb566 ≠ gb554) := ⟨Nat.ne_of_gt (Nat.lt_of_lt_of_le (blk_lt (g := gb554) (o := .cells #[.int .i64 a0_0, .slice A0_1 l0_1.length c0_1] 28 (0, 0)) (by exact kP BK554.out)) hge)⟩;have n0_ := Aside0.mk (Kd.R_below (by exact rP HO558.out) hb);have n1_ := Aside0.mk (Kd.S_lower (Kd.S_new' ho0 (Kd.R_lt (by exact rP HO558.out))) (below_size (by exact bB)));have n2_ := Aside0.mk (Kd.S_lower (Kd.S_new' ho1 (Kd.R_lt (by exact rP HO558.out))) (below_size (by exact bB)));have n3_ := Aside0.mk (blk_below (g := gb554) (o := .cells #[.int .i64 a0_0, .slice A0_1 l0_1.length c0_1] 28 (0, 0)) (by exact kP BK554.out) hb);have n4_ := Aside0.mk (below_step (by exact bB) hb);clear HO558;clear BK554;clear HB;have HO558 := n0_;have HO562 := n1_;have HO565 := n2_;have BK554 := n3_;have HB := n4_;clear n0_ n1_ n2_ n3_ n4_;(try clear hb);(try clear hb2);(try clear hk);(try clear hi);(try clear ho0);(try clear ho1);obtain ⟨Ao18, co18, eo18⟩ := Kd.S_slice HO562.out;subst eo18;obtain ⟨Ao19, co19, eo19⟩ := Kd.S_slice HO565.out;subst eo19;have BK566 := Aside0.mk hbx;clear hbx hge;have hnb21 := NB566_554.out;have hnc21 := NB554_566.out;have hcz22_0 : w17.cell? ⟨gb566, 0, none⟩ = some (.int .i64 t559) := (blk_cell BK566.out 0).trans rfl;have hcz22_1 : w17.cell? ⟨gb566, 1, none⟩ = some (.slice Ao18 t560.length co18) := (blk_cell BK566.out 1).trans rfl;have hcz22_2 : w17.cell? ⟨gb566, 2, none⟩ = some (.slice Ao19 t563.length co19) := (blk_cell BK566.out 2).trans rfl;have hfz22_0 := blk_frozen BK566.out 0;have hfz22_1 := blk_frozen BK566.out 1;have hfz22_2 := blk_frozen BK566.out 2) | ((with_reducible refine gate_callee (f := 75) rfl ?_);refine goesL_ (some 28) rfl rfl Tryd.func75 (by kernel_rfl) rfl #[.pointer (some ⟨gb566, 0, none⟩), .slice A1 l1.length c1] rfl mM ?_;(with_reducible refine (impl_valPlace.calls gb566 k t559 Ao18 co18 t560 Ao19 co19 t563 _ _ l1 t567 _ ?side1 ?side2 ?side3 ?side4 ?side5 ?side6 A9.out ?sideG).mono ?_);(case sideG => exact kP BK566.out);(case side1 => exact cP (Kd.S_reads' HO562.out).2.2);(case side2 => exact (Kd.S_reads' HO562.out).2.1);(case side3 => exact cP (Kd.S_reads' HO565.out).2.2);(case side4 => exact (Kd.S_reads' HO565.out).2.1);(case side5 => exact cP (Kd.C_below HR1.out HB.out));(case side6 => exact HC1.out);rintro e w23 ⟨rfl, hb⟩;refine ⟨_, rfl, ?_⟩;have n0_ := Aside0.mk (Kd.R_below (by exact rP HO558.out) hb);have n1_ := Aside0.mk (Kd.S_below (by (with_reducible repeat (first | apply Kd.S_alloc | apply Kd.S_drewN | apply Kd.S_drew));exact HO562.out) hb);have n2_ := Aside0.mk (Kd.S_below (by (with_reducible repeat (first | apply Kd.S_alloc | apply Kd.S_drewN | apply Kd.S_drew));exact HO565.out) hb);have n3_ := Aside0.mk (blk_below (g := gb554) (o := .cells #[.int .i64 a0_0, .slice A0_1 l0_1.length c0_1] 28 (0, 0)) (by exact kP BK554.out) hb);have n4_ := Aside0.mk (blk_below (g := gb566) (o := .cells #[.int .i64 t559, .slice Ao18 t560.length co18, .slice Ao19 t563.length co19] 89 (0, 0)) (by exact kP BK566.out) hb);have n5_ := Aside0.mk (below_step (by exact bB) hb);clear HO558;clear HO562;clear HO565;clear BK554;clear BK566;clear HB;have HO558 := n0_;have HO562 := n1_;have HO565 := n2_;have BK554 := n3_;have BK566 := n4_;have HB := n5_;clear n0_ n1_ n2_ n3_ n4_ n5_;(try clear hb);(try clear hb2);(try clear hk);(try clear hi)) | ((with_reducible refine gate_callee (f := 74) rfl ?_);refine goesL_ (some 30) rfl rfl Tryd.func74 (by kernel_rfl) rfl #[.pointer (some ⟨gb566, 0, none⟩), .int .i64 t567, .int .i64 a2] rfl mM ?_;(with_reducible refine (impl_valAnswers.calls gb566 t559 Ao18 co18 t560 Ao19 co19 t563 t567 a2 t568 _ ?side1 ?side2 ?side3 ?side4 A10.out ?sideG).mono ?_);(case sideG => exact kP BK566.out);(case side1 => exact cP (Kd.S_reads' HO562.out).2.2);(case side2 => exact (Kd.S_reads' HO562.out).2.1);(case side3 => exact cP (Kd.S_reads' HO565.out).2.2);(case side4 => exact (Kd.S_reads' HO565.out).2.1);rintro e w24 ⟨v569, rfl, ho0, hb⟩;refine ⟨_, rfl, ?_⟩;have n0_ := Aside0.mk (Kd.R_elder' (by exact rP HO558.out) (Kd.R_base ho0) hb);have n1_ := Aside0.mk (Kd.S_elder' (by (with_reducible repeat (first | apply Kd.S_alloc | apply Kd.S_drewN | apply Kd.S_drew));exact HO562.out) (Kd.R_base ho0) hb);have n2_ := Aside0.mk (Kd.S_elder' (by (with_reducible repeat (first | apply Kd.S_alloc | apply Kd.S_drewN | apply Kd.S_drew));exact HO565.out) (Kd.R_base ho0) hb);have n3_ := Aside0.mk (Kd.R_lower (Kd.R_new' ho0 (Kd.R_lt (by exact rP HO558.out))) (below_size (by exact bB)));have n4_ := Aside0.mk (blk_below (g := gb554) (o := .cells #[.int .i64 a0_0, .slice A0_1 l0_1.length c0_1] 28 (0, 0)) (by exact kP BK554.out) hb);have n5_ := Aside0.mk (blk_below (g := gb566) (o := .cells #[.int .i64 t559, .slice Ao18 t560.length co18, .slice Ao19 t563.length co19] 89 (0, 0)) (by exact kP BK566.out) hb);have n6_ := Aside0.mk (below_step (by exact bB) hb);clear HO558;clear HO562;clear HO565;clear BK554;clear BK566;clear HB;have HO558 := n0_;have HO562 := n1_;have HO565 := n2_;have HO570 := n3_;have BK554 := n4_;have BK566 := n5_;have HB := n6_;clear n0_ n1_ n2_ n3_ n4_ n5_ n6_;(try clear hb);(try clear hb2);(try clear hk);(try clear hi);(try clear ho0);obtain ⟨Ao25, co25, eo25⟩ := Kd.R_slice HO570.out;subst eo25))
  go_loopg [11, 32] k (fun kq v11 v32 w' => ∃ (x11_1 : List (List Int)) (x32_1 : Int), v32 = .int .i64 x32_1 ∧ Aside0 (impl_GuardAnswers.l0 kq x11_1 t568 (t568.length : Int) x32_1 t559 t560 t563 = some (r1, r2)) ∧ Aside0 (kq ≤ k) ∧ Aside0 (Kd.S (Kd.slice 3 (Kd.int .i64)) 32 w' w.heap.size (fun k_ => some k_ ≠ ((.slice Ao25 t568.length co25) : Value).ownBlock ∧ some k_ ≠ ((.slice Ao18 t560.length co18) : Value).ownBlock ∧ some k_ ≠ ((.slice Ao19 t563.length co19) : Value).ownBlock) v11 x11_1) ∧ Aside0 (Kd.R (Kd.int .i64) 3 w' w.heap.size (fun _ => True) (.slice Ao25 t568.length co25) t568) ∧ Aside0 (Kd.S (Kd.slice 3 (Kd.int .i64)) 32 w' w.heap.size (fun k_ => some k_ ≠ (v11 : Value).ownBlock ∧ some k_ ≠ ((.slice Ao25 t568.length co25) : Value).ownBlock ∧ some k_ ≠ ((.slice Ao19 t563.length co19) : Value).ownBlock) (.slice Ao18 t560.length co18) t560) ∧ Aside0 (Kd.S (Kd.slice 3 (Kd.int .i64)) 32 w' w.heap.size (fun k_ => some k_ ≠ (v11 : Value).ownBlock ∧ some k_ ≠ ((.slice Ao25 t568.length co25) : Value).ownBlock ∧ some k_ ≠ ((.slice Ao18 t560.length co18) : Value).ownBlock) (.slice Ao19 t563.length co19) t563) ∧ Aside0 (w'.heap[gb554]? = some (.cells #[.int .i64 a0_0, (.slice A0_1 l0_1.length c0_1)] 28 (0, 0))) ∧ Aside0 (w'.heap[gb566]? = some (.cells #[.int .i64 t559, (.slice Ao18 t560.length co18), (.slice Ao19 t563.length co19)] 89 (0, 0))) ∧ Aside0 (Below w.heap.size w w'))
  case atStart => exact ⟨(([] : List (List Int))), (0), (by first | rfl | (simp;done) | (simp [*];done)), H', ⟨Nat.le_refl _⟩, ⟨by first | exact Kd.S_nil _ _ _ _ _ | exact Kd.N_nil _ _ _ _ _ | exact Kd.V_nil _ _ _ _ _ | exact Kd.Q_nil _ _ _ _ _ | exact Kd.R_nil _ _ _ _ _⟩, ⟨by refine rP ?_;exact Kd.R_mono HO570.out (fun _ hk => trivial)⟩, ⟨by (with_reducible repeat (first | apply Kd.S_alloc | apply Kd.S_drewN | apply Kd.S_drew));exact Kd.S_mono HO562.out (fun _ hk => ⟨(by simp [Value.ownBlock]), ⟨hk.2, hk.1.1⟩⟩)⟩, ⟨by (with_reducible repeat (first | apply Kd.S_alloc | apply Kd.S_drewN | apply Kd.S_drew));exact Kd.S_mono HO565.out (fun _ hk => ⟨(by simp [Value.ownBlock]), ⟨hk.2, hk.1.1⟩⟩)⟩, ⟨by exact kP BK554.out⟩, ⟨by exact kP BK566.out⟩, ⟨by exact bB⟩⟩
  case round =>
   clear H'
   try clear c1
   try clear c2
   try clear p2
   try clear c3
   try clear c4
   try clear c6
   try clear c7
   try clear c8
   try clear c10
   try clear c21
   try clear hcz12_0
   try clear hcz12_1
   try clear hcz14_0
   try clear hcz14_1
   try clear hcz22_0
   try clear hcz22_1
   try clear hcz22_2
   try clear hfz12_0
   try clear hfz12_1
   try clear hfz14_0
   try clear hfz14_1
   try clear hfz22_0
   try clear hfz22_1
   try clear hfz22_2
   obtain ⟨x11_1, x32_1, rfl, HA, HK1, HO_11, HO_30, HO_567001, HO_567002, BK554, BK566, HB⟩ := hrel
   cases gk with
   | zero => exact absurd HA.out (by simp [impl_GuardAnswers.l0])
   | succ k1 =>
    have H := HA.out
    clear HA
    simp only [impl_GuardAnswers.l0] at H
    by_cases c26 : x32_1 < (t568.length : Int)
    ·rw [if_pos c26] at H
     have c26b0 : decide (x32_1 < (t568.length : Int)) = true := decide_eq_true c26
     clear c26
     by_cases c27 : 0 ≤ x32_1
     ·rw [if_pos c27] at H
      have c27b0 : decide (0 ≤ x32_1) = true := decide_eq_true c27
      clear c27
      by_cases c28 : x32_1 < (t568.length : Int)
      ·rw [if_pos c28] at H
       have c28b0 : decide (x32_1 < (t568.length : Int)) = true := decide_eq_true c28
       clear c28
       by_cases c29 : 0 ≤ (rd t568 x32_1)
       ·rw [if_pos c29] at H
        have c29b0 : decide (0 ≤ (rd t568 x32_1)) = true := decide_eq_true c29
        clear c29
        by_cases c30 : (rd t568 x32_1) < (t560.length : Int)
        ·rw [if_pos c30] at H
         have c30b0 : decide ((rd t568 x32_1) < (t560.length : Int)) = true := decide_eq_true c30
         clear c30
         replace H := Option.bind_eq_some_iff.mp H
         obtain ⟨t573, A310, H⟩ := H
         replace H : (if x11_1.length < 5864062014805 then (impl_GuardAnswers.l0 k1 (x11_1 ++ [t573]) t568 (t568.length : Int) (wrap64 (x32_1 + 1)) t559 t560 t563) else (none)) = some (r1, r2) := H
         have A31 := Aside0.mk A310
         clear A310
         by_cases c32 : x11_1.length < 5864062014805
         ·rw [if_pos c32] at H
          have LMc32 := Aside0.mk c32
          clear c32
          obtain ⟨y576, hy576⟩ : ∃ y_ : List (List Int), y_ = (x11_1 ++ [t573]) := ⟨_, rfl⟩
          replace H : (impl_GuardAnswers.l0 k1 y576 t568 (t568.length : Int) (wrap64 (x32_1 + 1)) t559 t560 t563) = some (r1, r2) := by first | (rw [hy576];with_reducible exact H) | (have H2_ := (Option.bind_some _ _).symm.trans H;rw [hy576];with_reducible exact H2_) | (have H2_ := (Option.bind_some _ _).symm.trans H;with_reducible exact H2_) | with_reducible exact H | (rw [hy576];exact H) | exact H
          have Ny576 := Aside0.mk hy576
          clear hy576
          have H' := Aside0.mk H
          clear H
          have p571 : 0 ≤ (x32_1 : Int) := oA
          have q571 : x32_1 < (t568.length : Int) := oA
          obtain ⟨ad571, e571, hx571_0⟩ := Kd.at_int (Kd.R_reads' HO_30.out).2.2 x32_1 p571 q571
          cases e571
          replace p571 := eq_true p571
          replace q571 := eq_true q571
          have hnb33 := NB566_554.out
          have hnc33 := NB554_566.out
          have hcz34_0 : wr.cell? ⟨gb566, 0, none⟩ = some (.int .i64 t559) := (blk_cell BK566.out 0).trans rfl
          have hcz34_1 : wr.cell? ⟨gb566, 1, none⟩ = some (.slice Ao18 t560.length co18) := (blk_cell BK566.out 1).trans rfl
          have hcz34_2 : wr.cell? ⟨gb566, 2, none⟩ = some (.slice Ao19 t563.length co19) := (blk_cell BK566.out 2).trans rfl
          have hfz34_0 := blk_frozen BK566.out 0
          have hfz34_1 := blk_frozen BK566.out 1
          have hfz34_2 := blk_frozen BK566.out 2
          have p572 : 0 ≤ ((rd t568 x32_1) : Int) := oA
          have q572 : (rd t568 x32_1) < (t560.length : Int) := oA
          obtain ⟨ad572, A572_0, c572_0, e572, hx572_0, hl572_0, hi572_0⟩ := at_L2 (Kd.S_reads' HO_567001.out).2.2 (rd t568 x32_1) p572 q572
          cases e572
          obtain ⟨ce572, hce572, hMe572, hcc572⟩ := Kd.S_get HO_567001.out [] (rd t568 x32_1) p572 (by first | exact q572 | exact oA | (have e_ := (Kd.S_reads' HO_567001.out).1;omega))
          obtain ⟨ve572_0, rfl, ge572_0⟩ := hMe572
          have hv572_0 := hcc572 0 _ rfl
          rw [Nat.add_zero, show ((Kd.slice 3 (Kd.int .i64))).sz = 1 from rfl, Nat.mul_one] at hv572_0
          replace hv572_0 := Option.some.inj (hv572_0.symm.trans hx572_0)
          rw [hv572_0] at ge572_0
          have HL572_0 := Aside0.mk (show Kd.R (Kd.int .i64) 3 _ _ _ _ (rd_L2 t560 (rd t568 x32_1)) from ge572_0)
          clear hv572_0 ge572_0
          clear hcc572 hce572
          have HR572_0 := Aside0.mk hi572_0
          have HC572_0 := Aside0.mk hl572_0
          clear hi572_0 hl572_0
          replace p572 := eq_true p572
          replace q572 := eq_true q572
          go_wp2_with (first | ((with_reducible refine gate_callee (f := 76) rfl ?_);refine goesL_ (some 44) rfl rfl Tryd.func76 (by kernel_rfl) rfl #[.slice A572_0 (rd_L2 t560 (rd t568 x32_1)).length c572_0] rfl mM ?_;(with_reducible refine (slices_Clone_int_int.calls _ _ (rd_L2 t560 (rd t568 x32_1)) t573 _ ?side1 ?side2 A31.out).mono ?_);(case side1 => exact cP (by repeat (first | (with_reducible exact HR572_0.out) | (with_reducible refine Kd.C_alloc ?_ _) | (with_reducible refine Kd.C_drewN ?_ _) | (with_reducible refine Kd.C_drew ?_) | exact HR572_0.out)));(case side2 => exact HC572_0.out);rintro e w35 ⟨v574, rfl, ho0, hb⟩;refine ⟨_, rfl, ?_⟩;have n0_ := Aside0.mk (Kd.S_elder' (by (with_reducible repeat (first | apply Kd.S_alloc | apply Kd.S_drewN | apply Kd.S_drew));exact HO_11.out) (Kd.R_base ho0) hb);have n1_ := Aside0.mk (Kd.R_elder' (by exact rP HO_30.out) (Kd.R_base ho0) hb);have n2_ := Aside0.mk (Kd.S_elder' (by (with_reducible repeat (first | apply Kd.S_alloc | apply Kd.S_drewN | apply Kd.S_drew));exact HO_567001.out) (Kd.R_base ho0) hb);have n3_ := Aside0.mk (Kd.S_elder' (by (with_reducible repeat (first | apply Kd.S_alloc | apply Kd.S_drewN | apply Kd.S_drew));exact HO_567002.out) (Kd.R_base ho0) hb);have n4_ := Aside0.mk (Kd.R_elder' (by exact rP HL572_0.out) (Kd.R_base ho0) hb);have n5_ := Aside0.mk (Kd.R_lower (Kd.R_new' (Kd.R_new' ho0 (Kd.R_lt (by exact rP HO_30.out))) (Kd.R_lt (by exact rP HL572_0.out))) (below_size (by exact bB)));have n6_ := Aside0.mk (blk_below (g := gb554) (o := .cells #[.int .i64 a0_0, .slice A0_1 l0_1.length c0_1] 28 (0, 0)) (by exact kP BK554.out) hb);have n7_ := Aside0.mk (blk_below (g := gb566) (o := .cells #[.int .i64 t559, .slice (some ad572) t560.length co18, .slice Ao19 t563.length co19] 89 (0, 0)) (by exact kP BK566.out) hb);have n8_ := Aside0.mk (Kd.C_below (by repeat (first | (with_reducible exact HR572_0.out) | (with_reducible refine Kd.C_alloc ?_ _) | (with_reducible refine Kd.C_drewN ?_ _) | (with_reducible refine Kd.C_drew ?_) | exact HR572_0.out)) hb);have n9_ := Aside0.mk (below_step (by exact bB) hb);clear HO_11;clear HO_30;clear HO_567001;clear HO_567002;clear HL572_0;clear BK554;clear BK566;clear HR572_0;clear HB;have HO_11 := n0_;have HO_30 := n1_;have HO_567001 := n2_;have HO_567002 := n3_;have HL572_0 := n4_;have HO575 := n5_;have BK554 := n6_;have BK566 := n7_;have HR572_0 := n8_;have HB := n9_;clear n0_ n1_ n2_ n3_ n4_ n5_ n6_ n7_ n8_ n9_;(try clear hb);(try clear hb2);(try clear hk);(try clear hi);(try clear ho0);obtain ⟨Ao37, co37, eo37⟩ := Kd.R_slice HO575.out;subst eo37) | ((with_reducible refine gate_builtin (b := .append) (xs := #[.tmp 36, .tmp 45]) rfl ?_);at_builtin;refine Kd.S_append (Kd.slice 3 (Kd.int .i64)) (w0 := w) w.heap.size rfl (.tmp 36) (.tmp 45) 38 32 (.slice none 0 0) 24 rfl Tryd.underlying38 info32 rfl (by decide) (by omega) u11 x11_1 t573 [.slice Ao37 t573.length co37] (fun k_ => some k_ ≠ (.slice (some ad571) t568.length co25 : Value).ownBlock ∧ some k_ ≠ (.slice (some ad572) t560.length co18 : Value).ownBlock ∧ some k_ ≠ (.slice Ao19 t563.length co19 : Value).ownBlock) (fun k_ => some k_ = (.slice Ao37 t573.length co37 : Value).ownBlock) rfl rfl ?aP (fun k_ hk_ => ((Kd.R_mono (ok' := fun k_ => ((fun k_ => some k_ ≠ (.slice (some ad571) t568.length co25 : Value).ownBlock ∧ some k_ ≠ (.slice (some ad572) t560.length co18 : Value).ownBlock ∧ some k_ ≠ (.slice Ao19 t563.length co19 : Value).ownBlock)) k_ ∧ some k_ ≠ (u11 : Value).ownBlock) (Kd.R_apart' (Kd.R_apart' (Kd.R_apart' (HO575.out) (Kd.S_typed HO_567001.out) (by decide)) (Kd.S_typed HO_567002.out) (by decide)) (Kd.S_typed HO_11.out) (by decide)) (fun k_ hk => ⟨⟨hk.1.1.1.1.2, ⟨hk.1.1.2, hk.1.2⟩⟩, hk.2⟩))).1 k_ hk_.symm) ?aF ?aO ?aB ?aS ?aL ?_;(case aP => exact Kd.M_row (Kd.R_mono (Kd.R_tight rfl (Kd.R_mono (ok' := fun k_ => ((fun k_ => some k_ ≠ (.slice (some ad571) t568.length co25 : Value).ownBlock ∧ some k_ ≠ (.slice (some ad572) t560.length co18 : Value).ownBlock ∧ some k_ ≠ (.slice Ao19 t563.length co19 : Value).ownBlock)) k_ ∧ some k_ ≠ (u11 : Value).ownBlock) (Kd.R_apart' (Kd.R_apart' (Kd.R_apart' (HO575.out) (Kd.S_typed HO_567001.out) (by decide)) (Kd.S_typed HO_567002.out) (by decide)) (Kd.S_typed HO_11.out) (by decide)) (fun k_ hk => ⟨⟨hk.1.1.1.1.2, ⟨hk.1.1.2, hk.1.2⟩⟩, hk.2⟩))) (fun _ h_ => h_)));(case aB => exact (by exact bB));(case aF => exact (fun k_ hk => ⟨Kd.fresh' (Kd.R_lt (by exact rP HO_30.out)) k_ hk, Kd.fresh' (Kd.S_lt (by (with_reducible repeat (first | apply Kd.S_alloc | apply Kd.S_drewN | apply Kd.S_drew));exact HO_567001.out)) k_ hk, Kd.fresh' (Kd.S_lt (by (with_reducible repeat (first | apply Kd.S_alloc | apply Kd.S_drewN | apply Kd.S_drew));exact HO_567002.out)) k_ hk⟩));(case aO => exact (by (with_reducible repeat (first | apply Kd.S_alloc | apply Kd.S_drewN | apply Kd.S_drew));exact Kd.S_mono HO_11.out (fun k_ hk => ⟨⟨hk.1.1, ⟨hk.1.2.1, hk.1.2.2⟩⟩, fun e_ => hk.2 e_⟩)));(case aS => exact (below_size (by exact bB)));(case aL => have := LMc32.out;omega);intro v577 w36 ho hb hg hat;rw [← Ny576.out] at ho;have n0_ := Aside0.mk (Kd.R_over' (by exact rP HO_30.out) (Kd.S_typed (by (with_reducible repeat (first | apply Kd.S_alloc | apply Kd.S_drewN | apply Kd.S_drew));exact HO_11.out)) (by decide) hg);have n1_ := Aside0.mk (Kd.S_after (ok := (fun k_ => some k_ ≠ (.slice (some ad571) t568.length co25 : Value).ownBlock ∧ some k_ ≠ (.slice Ao19 t563.length co19 : Value).ownBlock ∧ some k_ ≠ (.slice Ao37 t573.length co37 : Value).ownBlock)) (by (with_reducible repeat (first | apply Kd.S_alloc | apply Kd.S_drewN | apply Kd.S_drew));exact Kd.S_mono HO_567001.out (fun _ hk => ⟨⟨hk.1.2.1, ⟨hk.1.2.2, hk.2⟩⟩, hk.1.1⟩)) hg hat);have n2_ := Aside0.mk (Kd.S_after (ok := (fun k_ => some k_ ≠ (.slice (some ad571) t568.length co25 : Value).ownBlock ∧ some k_ ≠ (.slice (some ad572) t560.length co18 : Value).ownBlock ∧ some k_ ≠ (.slice Ao37 t573.length co37 : Value).ownBlock)) (by (with_reducible repeat (first | apply Kd.S_alloc | apply Kd.S_drewN | apply Kd.S_drew));exact Kd.S_mono HO_567002.out (fun _ hk => ⟨⟨hk.1.2.1, ⟨hk.1.2.2, hk.2⟩⟩, hk.1.1⟩)) hg hat);have n3_ := Aside0.mk (blk_grown (g := gb554) (o := .cells #[.int .i64 a0_0, .slice A0_1 l0_1.length c0_1] 28 (0, 0)) (by exact kP BK554.out) hg (Kd.S_ne HO_11.out BK554.out (by decide)));have n4_ := Aside0.mk (blk_grown (g := gb566) (o := .cells #[.int .i64 t559, .slice (some ad572) t560.length co18, .slice Ao19 t563.length co19] 89 (0, 0)) (by exact kP BK566.out) hg (Kd.S_ne HO_11.out BK566.out (by decide)));have n5_ := Aside0.mk (Kd.R_after (ok := (fun k_ => some k_ ≠ (.slice (some ad571) t568.length co25 : Value).ownBlock ∧ some k_ ≠ (.slice (some ad572) t560.length co18 : Value).ownBlock ∧ some k_ ≠ (.slice Ao19 t563.length co19 : Value).ownBlock ∧ some k_ ≠ (.slice Ao37 t573.length co37 : Value).ownBlock)) (by exact rP (Kd.R_mono HL572_0.out (fun _ hk => ⟨⟨hk.1.1.2.1, ⟨hk.1.2, ⟨hk.1.1.2.2, hk.2⟩⟩⟩, hk.1.1.1⟩))) hg hat);have n6_ := Aside0.mk (hb);have n7_ := Aside0.mk (ho);clear HO_30;clear HO_567001;clear HO_567002;clear BK554;clear BK566;clear HL572_0;clear HB;clear HO_11;clear HO575;have HO_30 := n0_;have HO_567001 := n1_;have HO_567002 := n2_;have BK554 := n3_;have BK566 := n4_;have HL572_0 := n5_;have HB := n6_;have HO578 := n7_;clear n0_ n1_ n2_ n3_ n4_ n5_ n6_ n7_;clear ho hb hg hat))
          go_roundg k1
          case measure => have := HK1.out;omega
          case rel => exact ⟨(y576), (wrap64 (x32_1 + 1)), (by first | rfl | (simp;done) | (simp [*];done)), H', ⟨by have := HK1.out;omega⟩, ⟨by (with_reducible repeat (first | apply Kd.S_alloc | apply Kd.S_drewN | apply Kd.S_drew));exact HO578.out⟩, ⟨by refine rP ?_;exact Kd.R_mono HO_30.out (fun _ hk => trivial)⟩, ⟨by (with_reducible repeat (first | apply Kd.S_alloc | apply Kd.S_drewN | apply Kd.S_drew));exact Kd.S_mono HO_567001.out (fun _ hk => ⟨hk.2, ⟨hk.1.1, hk.1.2.1⟩⟩)⟩, ⟨by (with_reducible repeat (first | apply Kd.S_alloc | apply Kd.S_drewN | apply Kd.S_drew));exact Kd.S_mono HO_567002.out (fun _ hk => ⟨hk.2, ⟨hk.1.1, hk.1.2.1⟩⟩)⟩, ⟨by exact kP BK554.out⟩, ⟨by exact kP BK566.out⟩, ⟨by exact bB⟩⟩
         ·rw [if_neg c32] at H
          exact absurd H (by simp)
        ·rw [if_neg c30] at H
         exact absurd H (by simp)
       ·rw [if_neg c29] at H
        exact absurd H (by simp)
      ·rw [if_neg c28] at H
       exact absurd H (by simp)
     ·rw [if_neg c27] at H
      exact absurd H (by simp)
    ·rw [if_neg c26] at H
     have c26b0 : decide (x32_1 < (t568.length : Int)) = false := decide_eq_false c26
     clear c26
     simp only [Option.some.injEq, Prod.mk.injEq] at H
     obtain ⟨rfl, rfl⟩ := H
     go_wp2
     go_ret2
     exact ⟨_, by first | rfl | (simp [errW_none, errW_some] <;> rfl) | (simp [*, errW_none, errW_some] <;> rfl), by (with_reducible repeat (first | apply Kd.S_alloc | apply Kd.S_drewN | apply Kd.S_drew));exact Kd.S_mono HO_11.out (fun _ hk => trivial), by exact bB⟩
 ·replace c6 := Bool.eq_false_iff.mpr c6
  subst c6
  have H1 : (some (([] : List (List Int)), false)) = some (r1, r2) := by rw [if_neg (show ¬ (false = true) by decide)] at H;exact H
  clear H
  have H := H1
  clear H1
  simp only [Option.some.injEq, Prod.mk.injEq] at H
  obtain ⟨rfl, rfl⟩ := H
  go_enter Tryd.func37, Tryd.ntmps37
  go_wp2_with (first | ((with_reducible refine gate_dst (N := 4) rfl ?_);refine box_event ?hg (N := 4) ?hd (cs := #[.int .i64 a0_0, .slice A0_1 l0_1.length c0_1]) (t := 28) ?hr ?_;(case hd => rfl);(case hg => rfl);(case hr => first | (go_simp;done) | (go_simp;rfl));intro gb554 hg w38 hbox hb;have n0_ := Aside0.mk (below_step (by exact bB) hb);have n1_ := Aside0.mk (hbox);have n2_ := Aside0.mk ((by rw [hg];exact (below_size (by exact bB)) : w.heap.size ≤ gb554));have n3_ := Aside0.mk ((by rw [hg];exact (below_size (by exact bB)) : w.heap.size ≤ gb554));clear HB;have HB := n0_;have BK554 := n1_;have GW554 := n2_;have GE554 := n3_;clear n0_ n1_ n2_ n3_;clear hb hbox hg;have hcz39_0 : w38.cell? ⟨gb554, 0, none⟩ = some (.int .i64 a0_0) := (blk_cell BK554.out 0).trans rfl;have hcz39_1 : w38.cell? ⟨gb554, 1, none⟩ = some (.slice A0_1 l0_1.length c0_1) := (blk_cell BK554.out 1).trans rfl;have hfz39_0 := blk_frozen BK554.out 0;have hfz39_1 := blk_frozen BK554.out 1) | ((with_reducible refine gate_callee (f := 73) rfl ?_);refine goesL_ (some 17) rfl rfl Tryd.func73 (by kernel_rfl) rfl #[.agg #[.int .i64 a0_0, .slice A0_1 l0_1.length c0_1], .slice A1 l1.length c1, .int .i64 a2] rfl mM ?_;(with_reducible refine (impl_isAttack.calls k a0_0 _ _ l0_1 _ _ l1 a2 false _ ?side1 ?side2 ?side3 ?side4 A5.out).mono ?_);(case side1 => exact cP (Kd.C_below HR0_1.out HB.out));(case side2 => exact HC0_1.out);(case side3 => exact cP (Kd.C_below HR1.out HB.out));(case side4 => exact HC1.out);rintro e w40 ⟨rfl, hb⟩;refine ⟨_, rfl, ?_⟩;have n0_ := Aside0.mk (blk_below (g := gb554) (o := .cells #[.int .i64 a0_0, .slice A0_1 l0_1.length c0_1] 28 (0, 0)) (by exact kP BK554.out) hb);have n1_ := Aside0.mk (below_step (by exact bB) hb);clear BK554;clear HB;have BK554 := n0_;have HB := n1_;clear n0_ n1_;(try clear hb);(try clear hb2);(try clear hk);(try clear hi)))
  go_ret2
  exact ⟨_, by first | rfl | (simp [errW_none, errW_some] <;> rfl) | (simp [*, errW_none, errW_some] <;> rfl), by first | exact Kd.S_nil _ _ _ _ _ | exact Kd.N_nil _ _ _ _ _ | exact Kd.V_nil _ _ _ _ _ | exact Kd.Q_nil _ _ _ _ _ | exact Kd.R_nil _ _ _ _ _, by exact bB⟩




end Go.Proofs.YthbjajppdomhhaaDoor.QGuardAnswers
