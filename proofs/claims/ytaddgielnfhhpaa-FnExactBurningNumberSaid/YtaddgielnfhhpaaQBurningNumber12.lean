import Derived.Test.YtaddgielnfhhpaaQBurningNumber0
import Derived.Test.YtaddgielnfhhpaaQBurningNumber9
import Derived.Test.YtaddgielnfhhpaaQBurningNumber10
import Derived.Test.YtaddgielnfhhpaaQBurningNumber11
namespace Go.Proofs.Ytaddgielnfhhpaa.QBurningNumber
open Go.RowKit Go.Proofs.YtaddgielnfhhpaaW.PrintWords Go.Proofs.YtaddgielnfhhpaaW.PrintLast Go.Proofs.YtaddgielnfhhpaaW.PrintMore
attribute [local go_sem] max2_int min2_int max_two min_two max_three min_three max_four min_four   -- for this text's walks alone
set_option linter.unusedVariables false
set_option linter.unusedSimpArgs false
/-! ### impl_BestBurning: function 25 -/
def impl_BestBurning.l0 : Nat → Int → Int → List Int → Option (List Int × Bool)
 | 0, _, _, _ => none
 | k + 1, x15, x16, x341000 => if x16 < x15 then ((impl_newMap.f x16).bind fun bt341 => ((impl_net_burnAll.f k x341000 x16 0 bt341.1 bt341.2).bind fun bt344 => (if bt344.2.1 = true then (some (bt344.1, true)) else (impl_BestBurning.l0 k x15 (wrap64 (x16 + 1)) x341000)))) else (some (([] : List Int), false))
def impl_BestBurning.f (k : Nat) (a0_0 : Int) (l0_1 : List (S80)) : Option (List Int × Bool) := (impl_IsGraph.f a0_0 l0_1).bind fun t336 => (if t336 = true then ((impl_netOf.f a0_0 l0_1).bind fun t337 => (impl_BestBurning.l0 k (wrap64 (a0_0 + 1)) 0 t337)) else (some (([] : List Int), false)))
theorem impl_BestBurning.mono_l : ∀ k, (∀ y0 y1 y2, LeO (impl_BestBurning.l0 k y0 y1 y2) (impl_BestBurning.l0 (k + 1) y0 y1 y2))
 | 0 => fun _ _ _ r h => by simp [impl_BestBurning.l0] at h
 | k + 1 => by
  have ih0 := impl_BestBurning.mono_l k
  ·intro y0 y1 y2
   unfold impl_BestBurning.l0
   repeat' first
   | (with_reducible exact ih0 _ _ _)
   | (with_reducible exact impl_net_burnAll.mono _ _ _ _ _ _)
   | (with_reducible exact LeO.refl _)
   | (with_reducible exact LeO.none _)
   | (with_reducible refine LeO.ite ?_ ?_)
   | (with_reducible refine LeO.bind ?_ (fun _ => ?_))
   | exact ih0 _ _ _
   | exact impl_net_burnAll.mono _ _ _ _ _ _
   | exact LeO.none _
   | refine LeO.ite ?_ ?_
   | refine LeO.bind ?_ (fun _ => ?_)
theorem impl_BestBurning.mono : ∀ a0 a1 k, LeO (impl_BestBurning.f k a0 a1) (impl_BestBurning.f (k + 1) a0 a1) := by
 intro a0 a1 k
 have ih0 := impl_BestBurning.mono_l k
 unfold impl_BestBurning.f
 repeat' first
   | (with_reducible exact ih0 _ _ _)
   | (with_reducible exact impl_net_burnAll.mono _ _ _ _ _ _)
   | (with_reducible exact LeO.refl _)
   | (with_reducible exact LeO.none _)
   | (with_reducible refine LeO.ite ?_ ?_)
   | (with_reducible refine LeO.bind ?_ (fun _ => ?_))
   | exact ih0 _ _ _
   | exact impl_net_burnAll.mono _ _ _ _ _ _
   | exact LeO.none _
   | refine LeO.ite ?_ ?_
   | refine LeO.bind ?_ (fun _ => ?_)
set_option maxHeartbeats 8000000 in
set_option maxRecDepth 100000 in
theorem impl_BestBurning.calls (k : Nat) (a0_0 : Int) (A0_1 : Option Addr) (c0_1 : Nat) (l0_1 : List (S80)) (r1 : List Int) (r2 : Bool) (w : World) (hr0_1 : Kd.C k80 w A0_1 l0_1.length l0_1) (hc0_1 : l0_1.length ≤ c0_1) (h : impl_BestBurning.f k a0_0 l0_1 = some (r1, r2)) :
  Calls Try.prog 25 #[.agg #[.int .i64 a0_0, .slice A0_1 l0_1.length c0_1]] w fun e w' => ∃ v0_ : Value, e = .returned (.tuple #[v0_, .bool r2]) ∧ Kd.R (Kd.int .i64) 3 w' w.heap.size (fun _ => True) v0_ r1 ∧ Below w.heap.size w w' := by
 have hu29 := Try.underlying29
 have hu56 := Try.underlying56
 have HR0_1 := Aside0.mk hr0_1
 have HC0_1 := Aside0.mk hc0_1
 clear hr0_1 hc0_1
 have HB := Aside0.mk (Below.refl w.heap.size w)
 have H : ((impl_IsGraph.f a0_0 l0_1).bind fun t336 => (if t336 = true then ((impl_netOf.f a0_0 l0_1).bind fun t337 => (impl_BestBurning.l0 k (wrap64 (a0_0 + 1)) 0 t337)) else (some (([] : List Int), false)))) = some (r1, r2) := h
 clear h
 replace H := Option.bind_eq_some_iff.mp H
 obtain ⟨t336, A20, H⟩ := H
 replace H : (if t336 = true then ((impl_netOf.f a0_0 l0_1).bind fun t337 => (impl_BestBurning.l0 k (wrap64 (a0_0 + 1)) 0 t337)) else (some (([] : List Int), false))) = some (r1, r2) := H
 have A2 := Aside0.mk A20
 clear A20
 by_cases c3 : t336 = true
 ·subst c3
  have H1 : ((impl_netOf.f a0_0 l0_1).bind fun t337 => (impl_BestBurning.l0 k (wrap64 (a0_0 + 1)) 0 t337)) = some (r1, r2) := by rw [if_pos rfl] at H;exact H
  clear H
  have H := H1
  clear H1
  replace H := Option.bind_eq_some_iff.mp H
  obtain ⟨t337, A40, H⟩ := H
  replace H : (impl_BestBurning.l0 k (wrap64 (a0_0 + 1)) 0 t337) = some (r1, r2) := H
  have A4 := Aside0.mk A40
  clear A40
  have H' := Aside0.mk H
  clear H
  go_enter Try.func25, Try.ntmps25
  go_wp2_with (first | ((with_reducible refine gate_dst (N := 1) rfl ?_);refine box_event ?hg (N := 1) ?hd (cs := #[.int .i64 a0_0, .slice A0_1 l0_1.length c0_1]) (t := 29) ?hr ?_;(case hd => rfl);(case hg => rfl);(case hr => first | (go_simp;done) | (go_simp;rfl));intro gb335 hg w5 hbox hb;have n0_ := Aside0.mk (below_step (by exact bB) hb);have n1_ := Aside0.mk (hbox);have n2_ := Aside0.mk ((by rw [hg];exact (below_size (by exact bB)) : w.heap.size ≤ gb335));have n3_ := Aside0.mk ((by rw [hg];exact (below_size (by exact bB)) : w.heap.size ≤ gb335));clear HB;have HB := n0_;have BK335 := n1_;have GW335 := n2_;have GE335 := n3_;clear n0_ n1_ n2_ n3_;clear hb hbox hg;have hcz6_0 : w5.cell? ⟨gb335, 0, none⟩ = some (.int .i64 a0_0) := (blk_cell BK335.out 0).trans rfl;have hcz6_1 : w5.cell? ⟨gb335, 1, none⟩ = some (.slice A0_1 l0_1.length c0_1) := (blk_cell BK335.out 1).trans rfl;have hfz6_0 := blk_frozen BK335.out 0;have hfz6_1 := blk_frozen BK335.out 1) | ((with_reducible refine gate_callee (f := 38) rfl ?_);refine goesL_ (some 9) rfl rfl Try.func38 (by kernel_rfl) rfl #[.agg #[.int .i64 a0_0, .slice A0_1 l0_1.length c0_1]] rfl mM ?_;(with_reducible refine (impl_IsGraph.calls a0_0 _ _ l0_1 true _ ?side1 ?side2 A2.out).mono ?_);(case side1 => exact cP (Kd.C_below HR0_1.out HB.out));(case side2 => exact HC0_1.out);rintro e w7 ⟨rfl, hb⟩;refine ⟨_, rfl, ?_⟩;have n0_ := Aside0.mk (blk_below (g := gb335) (o := .cells #[.int .i64 a0_0, .slice A0_1 l0_1.length c0_1] 29 (0, 0)) (by exact kP BK335.out) hb);have n1_ := Aside0.mk (below_step (by exact bB) hb);clear BK335;clear HB;have BK335 := n0_;have HB := n1_;clear n0_ n1_;(try clear hb);(try clear hb2);(try clear hk);(try clear hi);have hcz8_0 : w7.cell? ⟨gb335, 0, none⟩ = some (.int .i64 a0_0) := (blk_cell BK335.out 0).trans rfl;have hcz8_1 : w7.cell? ⟨gb335, 1, none⟩ = some (.slice A0_1 l0_1.length c0_1) := (blk_cell BK335.out 1).trans rfl;have hfz8_0 := blk_frozen BK335.out 0;have hfz8_1 := blk_frozen BK335.out 1) | ((with_reducible refine gate_callee (f := 40) rfl ?_);refine goesL_ (some 12) rfl rfl Try.func40 (by kernel_rfl) rfl #[.agg #[.int .i64 a0_0, .slice A0_1 l0_1.length c0_1]] rfl mM ?_;(with_reducible refine (impl_netOf.calls a0_0 _ _ l0_1 t337 _ ?side1 ?side2 A4.out).mono ?_);(case side1 => exact cP (Kd.C_below HR0_1.out HB.out));(case side2 => exact HC0_1.out);rintro e w9 ⟨v338, rfl, ho0, hb⟩;refine ⟨_, rfl, ?_⟩;have n0_ := Aside0.mk (Kd.R_lower ho0 (below_size (by exact bB)));have n1_ := Aside0.mk (blk_below (g := gb335) (o := .cells #[.int .i64 a0_0, .slice A0_1 l0_1.length c0_1] 29 (0, 0)) (by exact kP BK335.out) hb);have n2_ := Aside0.mk (below_step (by exact bB) hb);clear BK335;clear HB;have HO339 := n0_;have BK335 := n1_;have HB := n2_;clear n0_ n1_ n2_;(try clear hb);(try clear hb2);(try clear hk);(try clear hi);(try clear ho0)) | ((with_reducible refine gate_dst (N := 4) rfl ?_);refine box_event ?hg (N := 4) ?hd (cs := #[.slice none 0 0]) (t := 56) ?hr ?_;(case hd => rfl);(case hg => rfl);(case hr => first | (go_simp;done) | (go_simp;rfl));intro gb340 hg w10 hbox hb;have n0_ := Aside0.mk (Kd.R_below (by exact rP HO339.out) hb);have n1_ := Aside0.mk (blk_below (g := gb335) (o := .cells #[.int .i64 a0_0, .slice A0_1 l0_1.length c0_1] 29 (0, 0)) (by exact kP BK335.out) hb);have n2_ := Aside0.mk (below_step (by exact bB) hb);have n3_ := Aside0.mk (hbox);have n4_ := Aside0.mk ((by rw [hg];exact (below_size (by exact bB)) : w.heap.size ≤ gb340));have n5_ := Aside0.mk ((by rw [hg];exact (below_size (by exact bB)) : w.heap.size ≤ gb340));have n6_ := Aside0.mk ((by rw [hg];exact Nat.ne_of_lt (blk_lt (g := gb335) (o := .cells #[.int .i64 a0_0, .slice A0_1 l0_1.length c0_1] 29 (0, 0)) (by exact kP BK335.out)) : gb335 ≠ gb340));have n7_ := Aside0.mk ((by rw [hg];exact Nat.ne_of_gt (blk_lt (g := gb335) (o := .cells #[.int .i64 a0_0, .slice A0_1 l0_1.length c0_1] 29 (0, 0)) (by exact kP BK335.out)) : gb340 ≠ gb335));clear HO339;clear BK335;clear HB;have HO339 := n0_;have BK335 := n1_;have HB := n2_;have BK340 := n3_;have GW340 := n4_;have GE340 := n5_;have NB335_340 := n6_;have NB340_335 := n7_;clear n0_ n1_ n2_ n3_ n4_ n5_ n6_ n7_;clear hb hbox hg;obtain ⟨Ao11, co11, eo11⟩ := Kd.R_slice HO339.out;subst eo11;have hnb12 := NB340_335.out;have hnc12 := NB335_340.out;have hcz13_0 : w10.cell? ⟨gb340, 0, none⟩ = some (.slice none 0 0) := (blk_cell BK340.out 0).trans rfl;have hfz13_0 := blk_frozen BK340.out 0;have hcz14_0 : w10.cell? ⟨gb335, 0, none⟩ = some (.int .i64 a0_0) := (blk_cell BK335.out 0).trans rfl;have hcz14_1 : w10.cell? ⟨gb335, 1, none⟩ = some (.slice A0_1 l0_1.length c0_1) := (blk_cell BK335.out 1).trans rfl;have hfz14_0 := blk_frozen BK335.out 0;have hfz14_1 := blk_frozen BK335.out 1))
  go_loopg [16] k (fun kq v16 w' => ∃ (x16_1 : Int), v16 = .int .i64 x16_1 ∧ Aside0 (impl_BestBurning.l0 kq (wrap64 (a0_0 + 1)) x16_1 t337 = some (r1, r2)) ∧ Aside0 (kq ≤ k) ∧ Aside0 (Kd.R (Kd.int .i64) 3 w' w.heap.size (fun _ => True) (.slice Ao11 t337.length co11) t337) ∧ Aside0 (w'.heap[gb335]? = some (.cells #[.int .i64 a0_0, (.slice A0_1 l0_1.length c0_1)] 29 (0, 0))) ∧ Aside0 (w'.heap[gb340]? = some (.cells #[(.slice Ao11 t337.length co11)] 56 (0, 0))) ∧ Aside0 (Below w.heap.size w w'))
  case atStart => exact ⟨(0), (by first | rfl | (simp;done) | (simp [*];done)), H', ⟨Nat.le_refl _⟩, ⟨by refine rP ?_;exact Kd.R_mono (Kd.R_far (p := ⟨gb340, 0, none⟩) (Kd.R_types HO339.out BK340.out (by decide)) (fun _ hk => hk.2) (.slice Ao11 t337.length co11)) (fun _ hk => trivial)⟩, ⟨by refine kP ?_;refine blk_far ?_ NB335_340.out _;exact kP BK335.out⟩, ⟨by refine kP ?_;refine blk_put (cs := #[.slice none 0 0]) ?_ 0 _ rfl;exact kP BK340.out⟩, ⟨by exact bB⟩⟩
  case round =>
   clear H'
   try clear c1
   try clear c2
   try clear p2
   try clear c3
   try clear c4
   try clear p6
   try clear c12
   try clear hcz13_0
   try clear hcz14_0
   try clear hcz14_1
   try clear hcz6_0
   try clear hcz6_1
   try clear hcz8_0
   try clear hcz8_1
   try clear hfz13_0
   try clear hfz14_0
   try clear hfz14_1
   try clear hfz6_0
   try clear hfz6_1
   try clear hfz8_0
   try clear hfz8_1
   obtain ⟨x16_1, rfl, HA, HK1, HO_341000, BK335, BK340, HB⟩ := hrel
   cases gk with
   | zero => exact absurd HA.out (by simp [impl_BestBurning.l0])
   | succ k1 =>
    have H := HA.out
    clear HA
    simp only [impl_BestBurning.l0] at H
    by_cases c15 : x16_1 < (wrap64 (a0_0 + 1))
    ·rw [if_pos c15] at H
     have c15b0 : decide (x16_1 < (wrap64 (a0_0 + 1))) = true := decide_eq_true c15
     clear c15
     replace H := Option.bind_eq_some_iff.mp H
     obtain ⟨⟨t341, t342⟩, A160, H⟩ := H
     replace H : ((impl_net_burnAll.f k1 t337 x16_1 0 t341 t342).bind fun bt344 => (if bt344.2.1 = true then (some (bt344.1, true)) else (impl_BestBurning.l0 k1 (wrap64 (a0_0 + 1)) (wrap64 (x16_1 + 1)) t337))) = some (r1, r2) := H
     have A16 := Aside0.mk A160
     clear A160
     replace H := Option.bind_eq_some_iff.mp H
     obtain ⟨⟨t344, t347, t348, t349⟩, A170, H⟩ := H
     replace H : (if t347 = true then (some (t344, true)) else (impl_BestBurning.l0 k1 (wrap64 (a0_0 + 1)) (wrap64 (x16_1 + 1)) t337)) = some (r1, r2) := H
     have A17 := Aside0.mk A170
     clear A170
     by_cases c18 : t347 = true
     ·subst c18
      have H1 : (some (t344, true)) = some (r1, r2) := by rw [if_pos rfl] at H;exact H
      clear H
      have H := H1
      clear H1
      simp only [Option.some.injEq, Prod.mk.injEq] at H
      obtain ⟨rfl, rfl⟩ := H
      have hnb19 := NB340_335.out
      have hnc19 := NB335_340.out
      have hcz20_0 : wr.cell? ⟨gb340, 0, none⟩ = some (.slice Ao11 t337.length co11) := (blk_cell BK340.out 0).trans rfl
      have hfz20_0 := blk_frozen BK340.out 0
      go_wp2_with (first | ((with_reducible refine gate_dst (N := 22) rfl ?_);refine make_event (w0 := w) rfl rfl (by exact bB) ?_;intro g343 w21 hi hb hb2;have hi : IsS74 w w21 g343 t341 t342 := (by obtain ⟨e1_, e2_⟩ := newMap_eq A16.out;rw [e1_, e2_];exact hi);have n0_ := Aside0.mk (Kd.R_below (by exact rP HO_341000.out) hb2);have n1_ := Aside0.mk (blk_below (g := gb335) (o := .cells #[.int .i64 a0_0, .slice A0_1 l0_1.length c0_1] 29 (0, 0)) (by exact kP BK335.out) hb2);have n2_ := Aside0.mk (blk_below (g := gb340) (o := .cells #[.slice Ao11 t337.length co11] 56 (0, 0)) (by exact kP BK340.out) hb2);have n3_ := Aside0.mk (hb);have n4_ := Aside0.mk (hi);have n5_ := Aside0.mk (IsS74.ne_blk hi (blk_below (g := gb335) (o := .cells #[.int .i64 a0_0, .slice A0_1 l0_1.length c0_1] 29 (0, 0)) (by exact kP BK335.out) hb2) (by decide));have n6_ := Aside0.mk (Ne.symm (IsS74.ne_blk hi (blk_below (g := gb335) (o := .cells #[.int .i64 a0_0, .slice A0_1 l0_1.length c0_1] 29 (0, 0)) (by exact kP BK335.out) hb2) (by decide)));have n7_ := Aside0.mk (IsS74.ne_blk hi (blk_below (g := gb340) (o := .cells #[.slice Ao11 t337.length co11] 56 (0, 0)) (by exact kP BK340.out) hb2) (by decide));have n8_ := Aside0.mk (Ne.symm (IsS74.ne_blk hi (blk_below (g := gb340) (o := .cells #[.slice Ao11 t337.length co11] 56 (0, 0)) (by exact kP BK340.out) hb2) (by decide)));clear HO_341000;clear BK335;clear BK340;clear HB;have HO_341000 := n0_;have BK335 := n1_;have BK340 := n2_;have HB := n3_;have HI343 := n4_;have NB343_335 := n5_;have NB335_343 := n6_;have NB343_340 := n7_;have NB340_343 := n8_;clear n0_ n1_ n2_ n3_ n4_ n5_ n6_ n7_ n8_;(try clear hb);(try clear hb2);(try clear hk);(try clear hi)) | ((with_reducible refine gate_callee (f := 48) rfl ?_);refine goesL_ (some 23) rfl rfl Try.func48 (by kernel_rfl) rfl #[.agg #[.slice Ao11 t337.length co11], .int .i64 x16_1, .int .i64 0, .map (some g343)] rfl mM ?_;(with_reducible refine (impl_net_burnAll.calls k1 _ _ t337 x16_1 0 g343 t341 t342 t344 true t348 t349 w _ ?side1 ?side2 ?side3 ?side4 ?side5 A17.out).mono ?_);(case side1 => exact sS);(case side2 => exact bB);(case side3 => exact cP (Kd.R_reads' HO_341000.out).2.2);(case side4 => exact (Kd.R_reads' HO_341000.out).2.1);(case side5 => exact far_slice (IsS74.own_ne HI343.out HO_341000.out (by decide)));rintro e w22 ⟨v345, rfl, ho0, hi, hb, hk⟩;refine ⟨_, rfl, ?_⟩;have n0_ := Aside0.mk (Kd.R_mono (Kd.R_told (Kd.R_oldK (IsS74.apart (show IsS74 w _ g343 t341 t342 from by exact sS) (by exact rP HO_341000.out) (by decide)) hk) (Kd.R_base ho0)) (fun _ h_ => h_.1));have n1_ := Aside0.mk (KeepBut.blk hk (g' := gb335) (o := .cells #[.int .i64 a0_0, .slice A0_1 l0_1.length c0_1] 29 (0, 0)) (by exact kP BK335.out) NB335_343.out (by simp));have n2_ := Aside0.mk (KeepBut.blk hk (g' := gb340) (o := .cells #[.slice Ao11 t337.length co11] 56 (0, 0)) (by exact kP BK340.out) NB340_343.out (by simp));have n3_ := Aside0.mk (Kd.R_lower (Kd.R_new' ho0 (Kd.R_lt (by exact rP HO_341000.out))) (below_size (by exact bB)));have n4_ := Aside0.mk (hb);have n5_ := Aside0.mk (hi);clear HO_341000;clear BK335;clear BK340;clear HB;clear HI343;have HO_341000 := n0_;have BK335 := n1_;have BK340 := n2_;have HO346 := n3_;have HB := n4_;have HI343 := n5_;clear n0_ n1_ n2_ n3_ n4_ n5_;(try clear hb);(try clear hb2);(try clear hk);(try clear hi);(try clear ho0)))
      go_ret2
      exact ⟨_, by first | rfl | (simp [errW_none, errW_some] <;> rfl) | (simp [*, errW_none, errW_some] <;> rfl), by refine rP ?_;exact Kd.R_mono HO346.out (fun _ hk => trivial), by exact bB⟩
     ·replace c18 := Bool.eq_false_iff.mpr c18
      subst c18
      have H1 : (impl_BestBurning.l0 k1 (wrap64 (a0_0 + 1)) (wrap64 (x16_1 + 1)) t337) = some (r1, r2) := by rw [if_neg (show ¬ (false = true) by decide)] at H;exact H
      clear H
      have H := H1
      clear H1
      have H' := Aside0.mk H
      clear H
      have hnb23 := NB340_335.out
      have hnc23 := NB335_340.out
      have hcz24_0 : wr.cell? ⟨gb340, 0, none⟩ = some (.slice Ao11 t337.length co11) := (blk_cell BK340.out 0).trans rfl
      have hfz24_0 := blk_frozen BK340.out 0
      go_wp2_with (first | ((with_reducible refine gate_dst (N := 22) rfl ?_);refine make_event (w0 := w) rfl rfl (by exact bB) ?_;intro g343 w25 hi hb hb2;have hi : IsS74 w w25 g343 t341 t342 := (by obtain ⟨e1_, e2_⟩ := newMap_eq A16.out;rw [e1_, e2_];exact hi);have n0_ := Aside0.mk (Kd.R_below (by exact rP HO_341000.out) hb2);have n1_ := Aside0.mk (blk_below (g := gb335) (o := .cells #[.int .i64 a0_0, .slice A0_1 l0_1.length c0_1] 29 (0, 0)) (by exact kP BK335.out) hb2);have n2_ := Aside0.mk (blk_below (g := gb340) (o := .cells #[.slice Ao11 t337.length co11] 56 (0, 0)) (by exact kP BK340.out) hb2);have n3_ := Aside0.mk (hb);have n4_ := Aside0.mk (hi);have n5_ := Aside0.mk (IsS74.ne_blk hi (blk_below (g := gb335) (o := .cells #[.int .i64 a0_0, .slice A0_1 l0_1.length c0_1] 29 (0, 0)) (by exact kP BK335.out) hb2) (by decide));have n6_ := Aside0.mk (Ne.symm (IsS74.ne_blk hi (blk_below (g := gb335) (o := .cells #[.int .i64 a0_0, .slice A0_1 l0_1.length c0_1] 29 (0, 0)) (by exact kP BK335.out) hb2) (by decide)));have n7_ := Aside0.mk (IsS74.ne_blk hi (blk_below (g := gb340) (o := .cells #[.slice Ao11 t337.length co11] 56 (0, 0)) (by exact kP BK340.out) hb2) (by decide));have n8_ := Aside0.mk (Ne.symm (IsS74.ne_blk hi (blk_below (g := gb340) (o := .cells #[.slice Ao11 t337.length co11] 56 (0, 0)) (by exact kP BK340.out) hb2) (by decide)));clear HO_341000;clear BK335;clear BK340;clear HB;have HO_341000 := n0_;have BK335 := n1_;have BK340 := n2_;have HB := n3_;have HI343 := n4_;have NB343_335 := n5_;have NB335_343 := n6_;have NB343_340 := n7_;have NB340_343 := n8_;clear n0_ n1_ n2_ n3_ n4_ n5_ n6_ n7_ n8_;(try clear hb);(try clear hb2);(try clear hk);(try clear hi)) | ((with_reducible refine gate_callee (f := 48) rfl ?_);refine goesL_ (some 23) rfl rfl Try.func48 (by kernel_rfl) rfl #[.agg #[.slice Ao11 t337.length co11], .int .i64 x16_1, .int .i64 0, .map (some g343)] rfl mM ?_;(with_reducible refine (impl_net_burnAll.calls k1 _ _ t337 x16_1 0 g343 t341 t342 t344 false t348 t349 w _ ?side1 ?side2 ?side3 ?side4 ?side5 A17.out).mono ?_);(case side1 => exact sS);(case side2 => exact bB);(case side3 => exact cP (Kd.R_reads' HO_341000.out).2.2);(case side4 => exact (Kd.R_reads' HO_341000.out).2.1);(case side5 => exact far_slice (IsS74.own_ne HI343.out HO_341000.out (by decide)));rintro e w26 ⟨v345, rfl, ho0, hi, hb, hk⟩;refine ⟨_, rfl, ?_⟩;have n0_ := Aside0.mk (Kd.R_mono (Kd.R_told (Kd.R_oldK (IsS74.apart (show IsS74 w _ g343 t341 t342 from by exact sS) (by exact rP HO_341000.out) (by decide)) hk) (Kd.R_base ho0)) (fun _ h_ => h_.1));have n1_ := Aside0.mk (KeepBut.blk hk (g' := gb335) (o := .cells #[.int .i64 a0_0, .slice A0_1 l0_1.length c0_1] 29 (0, 0)) (by exact kP BK335.out) NB335_343.out (by simp));have n2_ := Aside0.mk (KeepBut.blk hk (g' := gb340) (o := .cells #[.slice Ao11 t337.length co11] 56 (0, 0)) (by exact kP BK340.out) NB340_343.out (by simp));have n3_ := Aside0.mk (Kd.R_lower (Kd.R_new' ho0 (Kd.R_lt (by exact rP HO_341000.out))) (below_size (by exact bB)));have n4_ := Aside0.mk (hb);have n5_ := Aside0.mk (hi);clear HO_341000;clear BK335;clear BK340;clear HB;clear HI343;have HO_341000 := n0_;have BK335 := n1_;have BK340 := n2_;have HO346 := n3_;have HB := n4_;have HI343 := n5_;clear n0_ n1_ n2_ n3_ n4_ n5_;(try clear hb);(try clear hb2);(try clear hk);(try clear hi);(try clear ho0)))
      go_roundg k1
      case measure => have := HK1.out;omega
      case rel => exact ⟨(wrap64 (x16_1 + 1)), (by first | rfl | (simp;done) | (simp [*];done)), H', ⟨by have := HK1.out;omega⟩, ⟨by refine rP ?_;exact Kd.R_mono HO_341000.out (fun _ hk => trivial)⟩, ⟨by exact kP BK335.out⟩, ⟨by exact kP BK340.out⟩, ⟨by exact bB⟩⟩
    ·rw [if_neg c15] at H
     have c15b0 : decide (x16_1 < (wrap64 (a0_0 + 1))) = false := decide_eq_false c15
     clear c15
     simp only [Option.some.injEq, Prod.mk.injEq] at H
     obtain ⟨rfl, rfl⟩ := H
     go_wp2
     go_ret2
     exact ⟨_, by first | rfl | (simp [errW_none, errW_some] <;> rfl) | (simp [*, errW_none, errW_some] <;> rfl), by first | exact Kd.R_nil _ _ _ _ _ | exact Kd.N_nil _ _ _ _ _ | exact Kd.V_nil _ _ _ _ _ | exact Kd.Q_nil _ _ _ _ _ | exact Kd.S_nil _ _ _ _ _, by exact bB⟩
 ·replace c3 := Bool.eq_false_iff.mpr c3
  subst c3
  have H1 : (some (([] : List Int), false)) = some (r1, r2) := by rw [if_neg (show ¬ (false = true) by decide)] at H;exact H
  clear H
  have H := H1
  clear H1
  simp only [Option.some.injEq, Prod.mk.injEq] at H
  obtain ⟨rfl, rfl⟩ := H
  go_enter Try.func25, Try.ntmps25
  go_wp2_with (first | ((with_reducible refine gate_dst (N := 1) rfl ?_);refine box_event ?hg (N := 1) ?hd (cs := #[.int .i64 a0_0, .slice A0_1 l0_1.length c0_1]) (t := 29) ?hr ?_;(case hd => rfl);(case hg => rfl);(case hr => first | (go_simp;done) | (go_simp;rfl));intro gb335 hg w27 hbox hb;have n0_ := Aside0.mk (below_step (by exact bB) hb);have n1_ := Aside0.mk (hbox);have n2_ := Aside0.mk ((by rw [hg];exact (below_size (by exact bB)) : w.heap.size ≤ gb335));have n3_ := Aside0.mk ((by rw [hg];exact (below_size (by exact bB)) : w.heap.size ≤ gb335));clear HB;have HB := n0_;have BK335 := n1_;have GW335 := n2_;have GE335 := n3_;clear n0_ n1_ n2_ n3_;clear hb hbox hg;have hcz28_0 : w27.cell? ⟨gb335, 0, none⟩ = some (.int .i64 a0_0) := (blk_cell BK335.out 0).trans rfl;have hcz28_1 : w27.cell? ⟨gb335, 1, none⟩ = some (.slice A0_1 l0_1.length c0_1) := (blk_cell BK335.out 1).trans rfl;have hfz28_0 := blk_frozen BK335.out 0;have hfz28_1 := blk_frozen BK335.out 1) | ((with_reducible refine gate_callee (f := 38) rfl ?_);refine goesL_ (some 9) rfl rfl Try.func38 (by kernel_rfl) rfl #[.agg #[.int .i64 a0_0, .slice A0_1 l0_1.length c0_1]] rfl mM ?_;(with_reducible refine (impl_IsGraph.calls a0_0 _ _ l0_1 false _ ?side1 ?side2 A2.out).mono ?_);(case side1 => exact cP (Kd.C_below HR0_1.out HB.out));(case side2 => exact HC0_1.out);rintro e w29 ⟨rfl, hb⟩;refine ⟨_, rfl, ?_⟩;have n0_ := Aside0.mk (blk_below (g := gb335) (o := .cells #[.int .i64 a0_0, .slice A0_1 l0_1.length c0_1] 29 (0, 0)) (by exact kP BK335.out) hb);have n1_ := Aside0.mk (below_step (by exact bB) hb);clear BK335;clear HB;have BK335 := n0_;have HB := n1_;clear n0_ n1_;(try clear hb);(try clear hb2);(try clear hk);(try clear hi)))
  go_ret2
  exact ⟨_, by first | rfl | (simp [errW_none, errW_some] <;> rfl) | (simp [*, errW_none, errW_some] <;> rfl), by first | exact Kd.R_nil _ _ _ _ _ | exact Kd.N_nil _ _ _ _ _ | exact Kd.V_nil _ _ _ _ _ | exact Kd.Q_nil _ _ _ _ _ | exact Kd.S_nil _ _ _ _ _, by exact bB⟩


/-! ### impl_BurningNumber: function 17 -/
def impl_BurningNumber.f (k : Nat) (a0_0 : Int) (l0_1 : List (S80)) : Option (Int × Bool) := (impl_BestBurning.f k a0_0 l0_1).bind fun bt351 => (some ((bt351.1.length : Int), bt351.2))
theorem impl_BurningNumber.mono : ∀ a0 a1 k, LeO (impl_BurningNumber.f k a0 a1) (impl_BurningNumber.f (k + 1) a0 a1) := by
 intro a0 a1 k
 unfold impl_BurningNumber.f
 repeat' first
   | (with_reducible exact impl_BestBurning.mono _ _ _)
   | (with_reducible exact LeO.refl _)
   | (with_reducible exact LeO.none _)
   | (with_reducible refine LeO.ite ?_ ?_)
   | (with_reducible refine LeO.bind ?_ (fun _ => ?_))
   | exact impl_BestBurning.mono _ _ _
   | exact LeO.none _
   | refine LeO.ite ?_ ?_
   | refine LeO.bind ?_ (fun _ => ?_)
set_option maxHeartbeats 8000000 in
set_option maxRecDepth 100000 in
theorem impl_BurningNumber.calls (k : Nat) (a0_0 : Int) (A0_1 : Option Addr) (c0_1 : Nat) (l0_1 : List (S80)) (r1 : Int) (r2 : Bool) (w : World) (hr0_1 : Kd.C k80 w A0_1 l0_1.length l0_1) (hc0_1 : l0_1.length ≤ c0_1) (h : impl_BurningNumber.f k a0_0 l0_1 = some (r1, r2)) :
  Calls Try.prog 17 #[.agg #[.int .i64 a0_0, .slice A0_1 l0_1.length c0_1]] w fun e w' => e = .returned (.tuple #[.int .i64 r1, .bool r2]) ∧ Below w.heap.size w w' := by
 have hu29 := Try.underlying29
 have HR0_1 := Aside0.mk hr0_1
 have HC0_1 := Aside0.mk hc0_1
 clear hr0_1 hc0_1
 have HB := Aside0.mk (Below.refl w.heap.size w)
 have H : ((impl_BestBurning.f k a0_0 l0_1).bind fun bt351 => (some ((bt351.1.length : Int), bt351.2))) = some (r1, r2) := h
 clear h
 replace H := Option.bind_eq_some_iff.mp H
 obtain ⟨⟨t351, t354⟩, A20, H⟩ := H
 replace H : (some ((t351.length : Int), t354)) = some (r1, r2) := H
 have A2 := Aside0.mk A20
 clear A20
 simp only [Option.some.injEq, Prod.mk.injEq] at H
 obtain ⟨rfl, rfl⟩ := H
 go_enter Try.func17, Try.ntmps17
 go_wp2_with (first | ((with_reducible refine gate_dst (N := 1) rfl ?_);refine box_event ?hg (N := 1) ?hd (cs := #[.int .i64 a0_0, .slice A0_1 l0_1.length c0_1]) (t := 29) ?hr ?_;(case hd => rfl);(case hg => rfl);(case hr => first | (go_simp;done) | (go_simp;rfl));intro gb350 hg w3 hbox hb;have n0_ := Aside0.mk (below_step (by exact bB) hb);have n1_ := Aside0.mk (hbox);have n2_ := Aside0.mk ((by rw [hg];exact (below_size (by exact bB)) : w.heap.size ≤ gb350));have n3_ := Aside0.mk ((by rw [hg];exact (below_size (by exact bB)) : w.heap.size ≤ gb350));clear HB;have HB := n0_;have BK350 := n1_;have GW350 := n2_;have GE350 := n3_;clear n0_ n1_ n2_ n3_;clear hb hbox hg;have hcz4_0 : w3.cell? ⟨gb350, 0, none⟩ = some (.int .i64 a0_0) := (blk_cell BK350.out 0).trans rfl;have hcz4_1 : w3.cell? ⟨gb350, 1, none⟩ = some (.slice A0_1 l0_1.length c0_1) := (blk_cell BK350.out 1).trans rfl;have hfz4_0 := blk_frozen BK350.out 0;have hfz4_1 := blk_frozen BK350.out 1) | ((with_reducible refine gate_callee (f := 25) rfl ?_);refine goesL_ (some 8) rfl rfl Try.func25 (by kernel_rfl) rfl #[.agg #[.int .i64 a0_0, .slice A0_1 l0_1.length c0_1]] rfl mM ?_;(with_reducible refine (impl_BestBurning.calls k a0_0 _ _ l0_1 t351 t354 _ ?side1 ?side2 A2.out).mono ?_);(case side1 => exact cP (Kd.C_below HR0_1.out HB.out));(case side2 => exact HC0_1.out);rintro e w5 ⟨v352, rfl, ho0, hb⟩;refine ⟨_, rfl, ?_⟩;have n0_ := Aside0.mk (Kd.R_lower ho0 (below_size (by exact bB)));have n1_ := Aside0.mk (blk_below (g := gb350) (o := .cells #[.int .i64 a0_0, .slice A0_1 l0_1.length c0_1] 29 (0, 0)) (by exact kP BK350.out) hb);have n2_ := Aside0.mk (below_step (by exact bB) hb);clear BK350;clear HB;have HO353 := n0_;have BK350 := n1_;have HB := n2_;clear n0_ n1_ n2_;(try clear hb);(try clear hb2);(try clear hk);(try clear hi);(try clear ho0);obtain ⟨Ao6, co6, eo6⟩ := Kd.R_slice HO353.out;subst eo6))
 go_ret2
 exact ⟨by first | rfl | (simp [errW_none, errW_some] <;> rfl) | (simp [*, errW_none, errW_some] <;> rfl), by exact bB⟩


end Go.Proofs.Ytaddgielnfhhpaa.QBurningNumber
