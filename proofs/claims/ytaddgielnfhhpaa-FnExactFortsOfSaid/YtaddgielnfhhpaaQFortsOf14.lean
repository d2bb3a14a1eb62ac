import Derived.Test.YtaddgielnfhhpaaQFortsOf0
import Derived.Test.YtaddgielnfhhpaaQFortsOf10
import Derived.Test.YtaddgielnfhhpaaQFortsOf11
import Derived.Test.YtaddgielnfhhpaaQFortsOf12
import Derived.Test.YtaddgielnfhhpaaQFortsOf13
namespace Go.Proofs.Ytaddgielnfhhpaa.QFortsOf
open Go.RowKit Go.Proofs.YtaddgielnfhhpaaW.PrintWords Go.Proofs.YtaddgielnfhhpaaW.PrintLast Go.Proofs.YtaddgielnfhhpaaW.PrintMore
attribute [local go_sem] max2_int min2_int max_two min_two max_three min_three max_four min_four   -- for this text's walks alone
set_option linter.unusedVariables false
set_option linter.unusedSimpArgs false
/-! ### impl_FortsOf: function 31 -/
/-- Is one set part of another one? -/
def subF (s f : Int) : Bool := Go.bits .andNot .i64 f s == 0
theorem stop_at {W0 W : World} (hb : Below W0.heap.size W0 W) {p : Addr} {v : Value} (h : W0.cell? p = some v) : W.cell? p = some v := (hb.cell (World.block_lt_of_cell? _ _ h)).trans h
set_option maxHeartbeats 1600000 in
theorem sub_fn (gS : Nat) (mask x : Int) (W : World) (hS : W.cell? ⟨gS, 0, none⟩ = some (.int .i64 mask)) :
  Calls Try.prog 59 (#[.int .i64 x] ++ #[.pointer (some ⟨gS, 0, none⟩)]) W fun e w' => e = .returned (.bool (subF mask x)) ∧ ∃ q, w' = W.drewN q := by
 show Calls Try.prog 59 #[.int .i64 x, .pointer (some ⟨gS, 0, none⟩)] W _
 go_enter Try.func59, Try.ntmps59
 go_wp2
 go_ret
 exact ⟨by first | rfl | simp [subF] | (unfold subF;simp), 0, by first | rfl | simp [World.drewN]⟩

mutual
def impl_FortsOf.l0 : Nat → List Int → List Int → Int → Int → List Int → Option ((List (List Int)) × Bool)
 | 0, _, _, _, _, _ => none
 | k + 1, x5, x17, x18, x19, x344000 => if x19 < x18 then (if 0 ≤ x19 then (if x19 < (x17.length : Int) then ((impl_net_isFort.f k x344000 (rd x17 x19)).bind fun t349 => (if t349 = true then ((some (x5.any (subF (rd x17 x19)))).bind fun t350 => (if t350 = true then (impl_FortsOf.l0 k x5 x17 x18 (wrap64 (x19 + 1)) x344000) else (if x5.length < 17592186044416 then (impl_FortsOf.l0 k (x5 ++ [rd x17 x19]) x17 x18 (wrap64 (x19 + 1)) x344000) else (none)))) else (impl_FortsOf.l0 k x5 x17 x18 (wrap64 (x19 + 1)) x344000))) else (none)) else (none)) else (impl_FortsOf.l1 k ([] : List (List Int)) x5 (x5.length : Int) 0)
def impl_FortsOf.l1 : Nat → List (List Int) → List Int → Int → Int → Option ((List (List Int)) × Bool)
 | 0, _, _, _, _ => none
 | k + 1, x8, x37, x38, x39 => if x39 < x38 then (if 0 ≤ x39 then (if x39 < (x37.length : Int) then ((impl_setOf.f k (rd x37 x39)).bind fun t355 => (if x8.length < 5864062014805 then (impl_FortsOf.l1 k (x8 ++ [t355]) x37 x38 (wrap64 (x39 + 1))) else (none))) else (none)) else (none)) else (some (x8, true))
end
def impl_FortsOf.f (k : Nat) (a0_0 : Int) (l0_1 : List (S80)) : Option ((List (List Int)) × Bool) := (impl_IsGraph.f a0_0 l0_1).bind fun t339 => (if t339 = true then ((impl_netOf.f a0_0 l0_1).bind fun t340 => ((impl_net_setsInOrder.f k t340).bind fun t344 => (impl_FortsOf.l0 k ([] : List Int) t344 (t344.length : Int) 0 t340))) else (some (([] : List (List Int)), false)))
theorem impl_FortsOf.mono_l : ∀ k, (∀ y0 y1 y2 y3 y4, LeO (impl_FortsOf.l0 k y0 y1 y2 y3 y4) (impl_FortsOf.l0 (k + 1) y0 y1 y2 y3 y4)) ∧ (∀ y0 y1 y2 y3, LeO (impl_FortsOf.l1 k y0 y1 y2 y3) (impl_FortsOf.l1 (k + 1) y0 y1 y2 y3))
 | 0 => ⟨fun _ _ _ _ _ r h => by simp [impl_FortsOf.l0] at h, fun _ _ _ _ r h => by simp [impl_FortsOf.l1] at h⟩
 | k + 1 => by
  obtain ⟨ih0, ih1⟩ := impl_FortsOf.mono_l k
  refine ⟨?_, ?_⟩
  ·intro y0 y1 y2 y3 y4
   unfold impl_FortsOf.l0
   repeat' first
   | (with_reducible exact ih0 _ _ _ _ _)
   | (with_reducible exact ih1 _ _ _ _)
   | (with_reducible exact impl_net_isFort.mono _ _ _)
   | (with_reducible exact impl_net_setsInOrder.mono _ _)
   | (with_reducible exact impl_setOf.mono _ _)
   | (with_reducible exact LeO.refl _)
   | (with_reducible exact LeO.none _)
   | (with_reducible refine LeO.ite ?_ ?_)
   | (with_reducible refine LeO.bind ?_ (fun _ => ?_))
   | exact ih0 _ _ _ _ _
   | exact ih1 _ _ _ _
   | exact impl_net_isFort.mono _ _ _
   | exact impl_net_setsInOrder.mono _ _
   | exact impl_setOf.mono _ _
   | exact LeO.none _
   | refine LeO.ite ?_ ?_
   | refine LeO.bind ?_ (fun _ => ?_)
  ·intro y0 y1 y2 y3
   unfold impl_FortsOf.l1
   repeat' first
   | (with_reducible exact ih0 _ _ _ _ _)
   | (with_reducible exact ih1 _ _ _ _)
   | (with_reducible exact impl_net_isFort.mono _ _ _)
   | (with_reducible exact impl_net_setsInOrder.mono _ _)
   | (with_reducible exact impl_setOf.mono _ _)
   | (with_reducible exact LeO.refl _)
   | (with_reducible exact LeO.none _)
   | (with_reducible refine LeO.ite ?_ ?_)
   | (with_reducible refine LeO.bind ?_ (fun _ => ?_))
   | exact ih0 _ _ _ _ _
   | exact ih1 _ _ _ _
   | exact impl_net_isFort.mono _ _ _
   | exact impl_net_setsInOrder.mono _ _
   | exact impl_setOf.mono _ _
   | exact LeO.none _
   | refine LeO.ite ?_ ?_
   | refine LeO.bind ?_ (fun _ => ?_)
theorem impl_FortsOf.mono : ∀ a0 a1 k, LeO (impl_FortsOf.f k a0 a1) (impl_FortsOf.f (k + 1) a0 a1) := by
 intro a0 a1 k
 obtain ⟨ih0, ih1⟩ := impl_FortsOf.mono_l k
 unfold impl_FortsOf.f
 repeat' first
   | (with_reducible exact ih0 _ _ _ _ _)
   | (with_reducible exact ih1 _ _ _ _)
   | (with_reducible exact impl_net_isFort.mono _ _ _)
   | (with_reducible exact impl_net_setsInOrder.mono _ _)
   | (with_reducible exact impl_setOf.mono _ _)
   | (with_reducible exact LeO.refl _)
   | (with_reducible exact LeO.none _)
   | (with_reducible refine LeO.ite ?_ ?_)
   | (with_reducible refine LeO.bind ?_ (fun _ => ?_))
   | exact ih0 _ _ _ _ _
   | exact ih1 _ _ _ _
   | exact impl_net_isFort.mono _ _ _
   | exact impl_net_setsInOrder.mono _ _
   | exact impl_setOf.mono _ _
   | exact LeO.none _
   | refine LeO.ite ?_ ?_
   | refine LeO.bind ?_ (fun _ => ?_)
set_option maxHeartbeats 8000000 in
set_option maxRecDepth 100000 in
theorem impl_FortsOf.calls (k : Nat) (a0_0 : Int) (A0_1 : Option Addr) (c0_1 : Nat) (l0_1 : List (S80)) (r1 : List (List Int)) (r2 : Bool) (w : World) (hr0_1 : Kd.C k80 w A0_1 l0_1.length l0_1) (hc0_1 : l0_1.length ≤ c0_1) (h : impl_FortsOf.f k a0_0 l0_1 = some (r1, r2)) :
  Calls Try.prog 31 #[.agg #[.int .i64 a0_0, .slice A0_1 l0_1.length c0_1]] w fun e w' => ∃ v0_ : Value, e = .returned (.tuple #[v0_, .bool r2]) ∧ Kd.S (Kd.slice 3 (Kd.int .i64)) 25 w' w.heap.size (fun _ => True) v0_ r1 ∧ Below w.heap.size w w' := by
 have hu29 := Try.underlying29
 have hu56 := Try.underlying56
 have hu3 := Try.underlying3
 have HR0_1 := Aside0.mk hr0_1
 have HC0_1 := Aside0.mk hc0_1
 clear hr0_1 hc0_1
 have HB := Aside0.mk (Below.refl w.heap.size w)
 have H : ((impl_IsGraph.f a0_0 l0_1).bind fun t339 => (if t339 = true then ((impl_netOf.f a0_0 l0_1).bind fun t340 => ((impl_net_setsInOrder.f k t340).bind fun t344 => (impl_FortsOf.l0 k ([] : List Int) t344 (t344.length : Int) 0 t340))) else (some (([] : List (List Int)), false)))) = some (r1, r2) := h
 clear h
 replace H := Option.bind_eq_some_iff.mp H
 obtain ⟨t339, A20, H⟩ := H
 replace H : (if t339 = true then ((impl_netOf.f a0_0 l0_1).bind fun t340 => ((impl_net_setsInOrder.f k t340).bind fun t344 => (impl_FortsOf.l0 k ([] : List Int) t344 (t344.length : Int) 0 t340))) else (some (([] : List (List Int)), false))) = some (r1, r2) := H
 have A2 := Aside0.mk A20
 clear A20
 by_cases c3 : t339 = true
 ·subst c3
  have H1 : ((impl_netOf.f a0_0 l0_1).bind fun t340 => ((impl_net_setsInOrder.f k t340).bind fun t344 => (impl_FortsOf.l0 k ([] : List Int) t344 (t344.length : Int) 0 t340))) = some (r1, r2) := by rw [if_pos rfl] at H;exact H
  clear H
  have H := H1
  clear H1
  replace H := Option.bind_eq_some_iff.mp H
  obtain ⟨t340, A40, H⟩ := H
  replace H : ((impl_net_setsInOrder.f k t340).bind fun t344 => (impl_FortsOf.l0 k ([] : List Int) t344 (t344.length : Int) 0 t340)) = some (r1, r2) := H
  have A4 := Aside0.mk A40
  clear A40
  replace H := Option.bind_eq_some_iff.mp H
  obtain ⟨t344, A50, H⟩ := H
  replace H : (impl_FortsOf.l0 k ([] : List Int) t344 (t344.length : Int) 0 t340) = some (r1, r2) := H
  have A5 := Aside0.mk A50
  clear A50
  have H' := Aside0.mk H
  clear H
  go_enter Try.func31, Try.ntmps31
  go_wp2_with (first | ((with_reducible refine gate_dst (N := 1) rfl ?_);refine box_event ?hg (N := 1) ?hd (cs := #[.int .i64 a0_0, .slice A0_1 l0_1.length c0_1]) (t := 29) ?hr ?_;(case hd => rfl);(case hg => rfl);(case hr => first | (go_simp;done) | (go_simp;rfl));intro gb338 hg w6 hbox hb;have n0_ := Aside0.mk (below_step (by exact bB) hb);have n1_ := Aside0.mk (hbox);have n2_ := Aside0.mk ((by rw [hg];exact (below_size (by exact bB)) : w.heap.size ≤ gb338));have n3_ := Aside0.mk ((by rw [hg];exact (below_size (by exact bB)) : w.heap.size ≤ gb338));clear HB;have HB := n0_;have BK338 := n1_;have GW338 := n2_;have GE338 := n3_;clear n0_ n1_ n2_ n3_;clear hb hbox hg;have hcz7_0 : w6.cell? ⟨gb338, 0, none⟩ = some (.int .i64 a0_0) := (blk_cell BK338.out 0).trans rfl;have hcz7_1 : w6.cell? ⟨gb338, 1, none⟩ = some (.slice A0_1 l0_1.length c0_1) := (blk_cell BK338.out 1).trans rfl;have hfz7_0 := blk_frozen BK338.out 0;have hfz7_1 := blk_frozen BK338.out 1) | ((with_reducible refine gate_callee (f := 38) rfl ?_);refine goesL_ (some 12) rfl rfl Try.func38 (by kernel_rfl) rfl #[.agg #[.int .i64 a0_0, .slice A0_1 l0_1.length c0_1]] rfl mM ?_;(with_reducible refine (impl_IsGraph.calls a0_0 _ _ l0_1 true _ ?side1 ?side2 A2.out).mono ?_);(case side1 => exact cP (Kd.C_below HR0_1.out HB.out));(case side2 => exact HC0_1.out);rintro e w8 ⟨rfl, hb⟩;refine ⟨_, rfl, ?_⟩;have n0_ := Aside0.mk (blk_below (g := gb338) (o := .cells #[.int .i64 a0_0, .slice A0_1 l0_1.length c0_1] 29 (0, 0)) (by exact kP BK338.out) hb);have n1_ := Aside0.mk (below_step (by exact bB) hb);clear BK338;clear HB;have BK338 := n0_;have HB := n1_;clear n0_ n1_;(try clear hb);(try clear hb2);(try clear hk);(try clear hi);have hcz9_0 : w8.cell? ⟨gb338, 0, none⟩ = some (.int .i64 a0_0) := (blk_cell BK338.out 0).trans rfl;have hcz9_1 : w8.cell? ⟨gb338, 1, none⟩ = some (.slice A0_1 l0_1.length c0_1) := (blk_cell BK338.out 1).trans rfl;have hfz9_0 := blk_frozen BK338.out 0;have hfz9_1 := blk_frozen BK338.out 1) | ((with_reducible refine gate_callee (f := 40) rfl ?_);refine goesL_ (some 15) rfl rfl Try.func40 (by kernel_rfl) rfl #[.agg #[.int .i64 a0_0, .slice A0_1 l0_1.length c0_1]] rfl mM ?_;(with_reducible refine (impl_netOf.calls a0_0 _ _ l0_1 t340 _ ?side1 ?side2 A4.out).mono ?_);(case side1 => exact cP (Kd.C_below HR0_1.out HB.out));(case side2 => exact HC0_1.out);rintro e w10 ⟨v341, rfl, ho0, hb⟩;refine ⟨_, rfl, ?_⟩;have n0_ := Aside0.mk (Kd.R_lower ho0 (below_size (by exact bB)));have n1_ := Aside0.mk (blk_below (g := gb338) (o := .cells #[.int .i64 a0_0, .slice A0_1 l0_1.length c0_1] 29 (0, 0)) (by exact kP BK338.out) hb);have n2_ := Aside0.mk (below_step (by exact bB) hb);clear BK338;clear HB;have HO342 := n0_;have BK338 := n1_;have HB := n2_;clear n0_ n1_ n2_;(try clear hb);(try clear hb2);(try clear hk);(try clear hi);(try clear ho0)) | ((with_reducible refine gate_dst (N := 4) rfl ?_);refine box_event ?hg (N := 4) ?hd (cs := #[.slice none 0 0]) (t := 56) ?hr ?_;(case hd => rfl);(case hg => rfl);(case hr => first | (go_simp;done) | (go_simp;rfl));intro gb343 hg w11 hbox hb;have n0_ := Aside0.mk (Kd.R_below (by exact rP HO342.out) hb);have n1_ := Aside0.mk (blk_below (g := gb338) (o := .cells #[.int .i64 a0_0, .slice A0_1 l0_1.length c0_1] 29 (0, 0)) (by exact kP BK338.out) hb);have n2_ := Aside0.mk (below_step (by exact bB) hb);have n3_ := Aside0.mk (hbox);have n4_ := Aside0.mk ((by rw [hg];exact (below_size (by exact bB)) : w.heap.size ≤ gb343));have n5_ := Aside0.mk ((by rw [hg];exact (below_size (by exact bB)) : w.heap.size ≤ gb343));have n6_ := Aside0.mk ((by rw [hg];exact Nat.ne_of_lt (blk_lt (g := gb338) (o := .cells #[.int .i64 a0_0, .slice A0_1 l0_1.length c0_1] 29 (0, 0)) (by exact kP BK338.out)) : gb338 ≠ gb343));have n7_ := Aside0.mk ((by rw [hg];exact Nat.ne_of_gt (blk_lt (g := gb338) (o := .cells #[.int .i64 a0_0, .slice A0_1 l0_1.length c0_1] 29 (0, 0)) (by exact kP BK338.out)) : gb343 ≠ gb338));clear HO342;clear BK338;clear HB;have HO342 := n0_;have BK338 := n1_;have HB := n2_;have BK343 := n3_;have GW343 := n4_;have GE343 := n5_;have NB338_343 := n6_;have NB343_338 := n7_;clear n0_ n1_ n2_ n3_ n4_ n5_ n6_ n7_;clear hb hbox hg;obtain ⟨Ao12, co12, eo12⟩ := Kd.R_slice HO342.out;subst eo12;have hnb13 := NB343_338.out;have hnc13 := NB338_343.out;have hcz14_0 : w11.cell? ⟨gb343, 0, none⟩ = some (.slice none 0 0) := (blk_cell BK343.out 0).trans rfl;have hfz14_0 := blk_frozen BK343.out 0) | ((with_reducible refine gate_callee (f := 56) rfl ?_);refine goesL_ (some 17) rfl rfl Try.func56 (by kernel_rfl) rfl #[.agg #[.slice Ao12 t340.length co12]] rfl mM ?_;(with_reducible refine (impl_net_setsInOrder.calls k _ _ t340 t344 _ ?side1 ?side2 A5.out).mono ?_);(case side1 => refine (Kd.R_reads' (e := 3) (base := w.heap.size) (ok := fun k_ => True) (n := t340.length) (c := co12) ?_).2.2;exact (by refine rP ?_;exact (Kd.R_mono (Kd.R_far (p := ⟨gb343, 0, none⟩) (Kd.R_types HO342.out BK343.out (by decide)) (fun _ hk => hk.2) (.slice Ao12 t340.length co12)) (fun _ h_ => h_.1))));(case side2 => exact (Kd.R_reads' HO342.out).2.1);rintro e w15 ⟨v345, rfl, ho0, hb⟩;refine ⟨_, rfl, ?_⟩;have n0_ := Aside0.mk (Kd.R_elder' (by exact rP ((Kd.R_mono (Kd.R_far (p := ⟨gb343, 0, none⟩) (Kd.R_types HO342.out BK343.out (by decide)) (fun _ hk => hk.2) (.slice Ao12 t340.length co12)) (fun _ h_ => h_.1)))) (Kd.R_base ho0) hb);have n1_ := Aside0.mk (Kd.R_lower (Kd.R_new' ho0 (Kd.R_lt (by exact rP ((Kd.R_mono (Kd.R_far (p := ⟨gb343, 0, none⟩) (Kd.R_types HO342.out BK343.out (by decide)) (fun _ hk => hk.2) (.slice Ao12 t340.length co12)) (fun _ h_ => h_.1)))))) (below_size (by exact bB)));have n2_ := Aside0.mk (blk_below (g := gb338) (o := .cells #[.int .i64 a0_0, .slice A0_1 l0_1.length c0_1] 29 (0, 0)) (by refine kP ?_;refine blk_far ?_ NB338_343.out _;exact kP BK338.out) hb);have n3_ := Aside0.mk (blk_below (g := gb343) (o := .cells #[.slice Ao12 t340.length co12] 56 (0, 0)) (by refine kP ?_;refine blk_put (cs := #[.slice none 0 0]) ?_ 0 _ rfl;exact kP BK343.out) hb);have n4_ := Aside0.mk (below_step (by exact bB) hb);clear HO342;clear BK338;clear BK343;clear HB;have HO342 := n0_;have HO346 := n1_;have BK338 := n2_;have BK343 := n3_;have HB := n4_;clear n0_ n1_ n2_ n3_ n4_;(try clear hb);(try clear hb2);(try clear hk);(try clear hi);(try clear ho0);obtain ⟨Ao16, co16, eo16⟩ := Kd.R_slice HO346.out;subst eo16))
  go_loopg [5, 19] k (fun kq v5 v19 w' => ∃ (x5_1 : List Int) (x19_1 : Int), v19 = .int .i64 x19_1 ∧ Aside0 (impl_FortsOf.l0 kq x5_1 t344 (t344.length : Int) x19_1 t340 = some (r1, r2)) ∧ Aside0 (kq ≤ k) ∧ Aside0 (Kd.R (Kd.int .i64) 3 w' w.heap.size (fun k_ => some k_ ≠ ((.slice Ao16 t344.length co16) : Value).ownBlock ∧ some k_ ≠ ((.slice Ao12 t340.length co12) : Value).ownBlock) v5 x5_1) ∧ Aside0 (Kd.R (Kd.int .i64) 3 w' w.heap.size (fun k_ => some k_ ≠ (v5 : Value).ownBlock ∧ some k_ ≠ ((.slice Ao12 t340.length co12) : Value).ownBlock) (.slice Ao16 t344.length co16) t344) ∧ Aside0 (Kd.R (Kd.int .i64) 3 w' w.heap.size (fun k_ => some k_ ≠ (v5 : Value).ownBlock ∧ some k_ ≠ ((.slice Ao16 t344.length co16) : Value).ownBlock) (.slice Ao12 t340.length co12) t340) ∧ Aside0 (w'.heap[gb338]? = some (.cells #[.int .i64 a0_0, (.slice A0_1 l0_1.length c0_1)] 29 (0, 0))) ∧ Aside0 (w'.heap[gb343]? = some (.cells #[(.slice Ao12 t340.length co12)] 56 (0, 0))) ∧ Aside0 (Below w.heap.size w w'))
  case atStart => exact ⟨(([] : List Int)), (0), (by first | rfl | (simp;done) | (simp [*];done)), H', ⟨Nat.le_refl _⟩, ⟨by first | exact Kd.R_nil _ _ _ _ _ | exact Kd.N_nil _ _ _ _ _ | exact Kd.V_nil _ _ _ _ _ | exact Kd.Q_nil _ _ _ _ _ | exact Kd.S_nil _ _ _ _ _⟩, ⟨by refine rP ?_;exact Kd.R_mono HO346.out (fun _ hk => ⟨(by simp [Value.ownBlock]), hk.2⟩)⟩, ⟨by refine rP ?_;exact Kd.R_mono HO342.out (fun _ hk => ⟨(by simp [Value.ownBlock]), hk.2⟩)⟩, ⟨by exact kP BK338.out⟩, ⟨by exact kP BK343.out⟩, ⟨by exact bB⟩⟩
  case round =>
   clear H'
   try clear c1
   try clear p2
   try clear c3
   try clear c4
   try clear c5
   try clear c13
   try clear hcz14_0
   try clear hcz7_0
   try clear hcz7_1
   try clear hcz9_0
   try clear hcz9_1
   try clear hfz14_0
   try clear hfz7_0
   try clear hfz7_1
   try clear hfz9_0
   try clear hfz9_1
   obtain ⟨x5_1, x19_1, rfl, HA, HK1, HO_5, HO_17, HO_344000, BK338, BK343, HB⟩ := hrel
   cases gk with
   | zero => exact absurd HA.out (by simp [impl_FortsOf.l0])
   | succ k1 =>
    have H := HA.out
    clear HA
    simp only [impl_FortsOf.l0] at H
    by_cases c17 : x19_1 < (t344.length : Int)
    ·rw [if_pos c17] at H
     have c17b0 : decide (x19_1 < (t344.length : Int)) = true := decide_eq_true c17
     clear c17
     by_cases c18 : 0 ≤ x19_1
     ·rw [if_pos c18] at H
      have c18b0 : decide (0 ≤ x19_1) = true := decide_eq_true c18
      clear c18
      by_cases c19 : x19_1 < (t344.length : Int)
      ·rw [if_pos c19] at H
       have c19b0 : decide (x19_1 < (t344.length : Int)) = true := decide_eq_true c19
       clear c19
       replace H := Option.bind_eq_some_iff.mp H
       obtain ⟨t349, A200, H⟩ := H
       replace H : (if t349 = true then ((some (x5_1.any (subF (rd t344 x19_1)))).bind fun t350 => (if t350 = true then (impl_FortsOf.l0 k1 x5_1 t344 (t344.length : Int) (wrap64 (x19_1 + 1)) t340) else (if x5_1.length < 17592186044416 then (impl_FortsOf.l0 k1 (x5_1 ++ [rd t344 x19_1]) t344 (t344.length : Int) (wrap64 (x19_1 + 1)) t340) else (none)))) else (impl_FortsOf.l0 k1 x5_1 t344 (t344.length : Int) (wrap64 (x19_1 + 1)) t340)) = some (r1, r2) := H
       have A20 := Aside0.mk A200
       clear A200
       by_cases c21 : t349 = true
       ·subst c21
        have H1 : ((some (x5_1.any (subF (rd t344 x19_1)))).bind fun t350 => (if t350 = true then (impl_FortsOf.l0 k1 x5_1 t344 (t344.length : Int) (wrap64 (x19_1 + 1)) t340) else (if x5_1.length < 17592186044416 then (impl_FortsOf.l0 k1 (x5_1 ++ [rd t344 x19_1]) t344 (t344.length : Int) (wrap64 (x19_1 + 1)) t340) else (none)))) = some (r1, r2) := by rw [if_pos rfl] at H;exact H
        clear H
        have H := H1
        clear H1
        replace H := Option.bind_eq_some_iff.mp H
        obtain ⟨t350, A220, H⟩ := H
        replace H : (if t350 = true then (impl_FortsOf.l0 k1 x5_1 t344 (t344.length : Int) (wrap64 (x19_1 + 1)) t340) else (if x5_1.length < 17592186044416 then (impl_FortsOf.l0 k1 (x5_1 ++ [rd t344 x19_1]) t344 (t344.length : Int) (wrap64 (x19_1 + 1)) t340) else (none))) = some (r1, r2) := H
        have A22 := Aside0.mk A220
        clear A220
        by_cases c23 : t350 = true
        ·subst c23
         have H1 : (impl_FortsOf.l0 k1 x5_1 t344 (t344.length : Int) (wrap64 (x19_1 + 1)) t340) = some (r1, r2) := by rw [if_pos rfl] at H;exact H
         clear H
         have H := H1
         clear H1
         have H' := Aside0.mk H
         clear H
         have p347 : 0 ≤ (x19_1 : Int) := oA
         have q347 : x19_1 < (t344.length : Int) := oA
         obtain ⟨ad347, e347, hx347_0⟩ := Kd.at_int (Kd.R_reads' HO_17.out).2.2 x19_1 p347 q347
         cases e347
         replace p347 := eq_true p347
         replace q347 := eq_true q347
         go_wp2_with (first | ((with_reducible refine gate_dst (N := 7) rfl ?_);refine box_event ?hg (N := 7) ?hd (cs := #[.int .i64 0]) (t := 3) ?hr ?_;(case hd => rfl);(case hg => rfl);(case hr => first | (go_simp;done) | (go_simp;rfl));intro gb348 hg w24 hbox hb;have n0_ := Aside0.mk (Kd.R_below (Kd.R_elderB (by exact rP HO_5.out) gb348 (Nat.le_of_eq hg.symm)) hb);have n1_ := Aside0.mk (Kd.R_below (Kd.R_elderB (by exact rP HO_17.out) gb348 (Nat.le_of_eq hg.symm)) hb);have n2_ := Aside0.mk (Kd.R_below (Kd.R_elderB (by exact rP HO_344000.out) gb348 (Nat.le_of_eq hg.symm)) hb);have n3_ := Aside0.mk (blk_below (g := gb338) (o := .cells #[.int .i64 a0_0, .slice A0_1 l0_1.length c0_1] 29 (0, 0)) (by exact kP BK338.out) hb);have n4_ := Aside0.mk (blk_below (g := gb343) (o := .cells #[.slice Ao12 t340.length co12] 56 (0, 0)) (by exact kP BK343.out) hb);have n5_ := Aside0.mk (below_step (by exact bB) hb);have n6_ := Aside0.mk (hbox);have n7_ := Aside0.mk ((by rw [hg];exact (below_size (by exact bB)) : w.heap.size ≤ gb348));have n8_ := Aside0.mk ((by rw [hg];exact (below_size (by exact bB)) : w.heap.size ≤ gb348));have n9_ := Aside0.mk ((by rw [hg];exact Nat.ne_of_lt (blk_lt (g := gb338) (o := .cells #[.int .i64 a0_0, .slice A0_1 l0_1.length c0_1] 29 (0, 0)) (by exact kP BK338.out)) : gb338 ≠ gb348));have n10_ := Aside0.mk ((by rw [hg];exact Nat.ne_of_gt (blk_lt (g := gb338) (o := .cells #[.int .i64 a0_0, .slice A0_1 l0_1.length c0_1] 29 (0, 0)) (by exact kP BK338.out)) : gb348 ≠ gb338));have n11_ := Aside0.mk ((by rw [hg];exact Nat.ne_of_lt (blk_lt (g := gb343) (o := .cells #[.slice Ao12 t340.length co12] 56 (0, 0)) (by exact kP BK343.out)) : gb343 ≠ gb348));have n12_ := Aside0.mk ((by rw [hg];exact Nat.ne_of_gt (blk_lt (g := gb343) (o := .cells #[.slice Ao12 t340.length co12] 56 (0, 0)) (by exact kP BK343.out)) : gb348 ≠ gb343));clear HO_5;clear HO_17;clear HO_344000;clear BK338;clear BK343;clear HB;have HO_5 := n0_;have HO_17 := n1_;have HO_344000 := n2_;have BK338 := n3_;have BK343 := n4_;have HB := n5_;have BK348 := n6_;have GW348 := n7_;have GE348 := n8_;have NB338_348 := n9_;have NB348_338 := n10_;have NB343_348 := n11_;have NB348_343 := n12_;clear n0_ n1_ n2_ n3_ n4_ n5_ n6_ n7_ n8_ n9_ n10_ n11_ n12_;have NEgb348 := Aside0.mk (show some gb348 ≠ _ from fun he_ => (HO_5.out.1 _ he_.symm).2 rfl);clear hb hbox hg;have hnb25 := NB348_338.out;have hnc25 := NB338_348.out;have hnb26 := NB348_343.out;have hnc26 := NB343_348.out;have hcz27_0 : w24.cell? ⟨gb348, 0, none⟩ = some (.int .i64 0) := (blk_cell BK348.out 0).trans rfl;have hfz27_0 := blk_frozen BK348.out 0;have hnb28 := NB343_338.out;have hnc28 := NB338_343.out;have hcz29_0 : w24.cell? ⟨gb343, 0, none⟩ = some (.slice Ao12 t340.length co12) := (blk_cell BK343.out 0).trans rfl;have hfz29_0 := blk_frozen BK343.out 0) | ((with_reducible refine gate_callee (f := 57) rfl ?_);refine goesL_ (some 25) rfl rfl Try.func57 (by kernel_rfl) rfl #[.agg #[.slice Ao12 t340.length co12], .int .i64 (rd t344 x19_1)] rfl mM ?_;(with_reducible refine (impl_net_isFort.calls k1 _ _ t340 (rd t344 x19_1) true _ ?side1 ?side2 A20.out).mono ?_);(case side1 => refine (Kd.R_reads' (e := 3) (base := w.heap.size) (ok := fun k_ => (some k_ ≠ (u5 : Value).ownBlock ∧ some k_ ≠ (.slice (some ad347) t344.length co16 : Value).ownBlock)) (n := t340.length) (c := co12) ?_).2.2;exact (by refine rP ?_;exact (Kd.R_mono (Kd.R_far (p := ⟨gb348, 0, none⟩) HO_344000.out (fun _ hk => hk.2) (.int .i64 (rd t344 x19_1))) (fun _ h_ => h_.1))));(case side2 => exact (Kd.R_reads' HO_344000.out).2.1);rintro e w30 ⟨rfl, hb⟩;refine ⟨_, rfl, ?_⟩;have n0_ := Aside0.mk (Kd.R_below (by exact rP ((Kd.R_mono (Kd.R_far (p := ⟨gb348, 0, none⟩) HO_5.out (fun _ hk => hk.2) (.int .i64 (rd t344 x19_1))) (fun _ h_ => h_.1)))) hb);have n1_ := Aside0.mk (Kd.R_below (by exact rP ((Kd.R_mono (Kd.R_far (p := ⟨gb348, 0, none⟩) HO_17.out (fun _ hk => hk.2) (.int .i64 (rd t344 x19_1))) (fun _ h_ => h_.1)))) hb);have n2_ := Aside0.mk (Kd.R_below (by exact rP ((Kd.R_mono (Kd.R_far (p := ⟨gb348, 0, none⟩) HO_344000.out (fun _ hk => hk.2) (.int .i64 (rd t344 x19_1))) (fun _ h_ => h_.1)))) hb);have n3_ := Aside0.mk (blk_below (g := gb338) (o := .cells #[.int .i64 a0_0, .slice A0_1 l0_1.length c0_1] 29 (0, 0)) (by refine kP ?_;refine blk_far ?_ NB338_348.out _;exact kP BK338.out) hb);have n4_ := Aside0.mk (blk_below (g := gb343) (o := .cells #[.slice Ao12 t340.length co12] 56 (0, 0)) (by refine kP ?_;refine blk_far ?_ NB343_348.out _;exact kP BK343.out) hb);have n5_ := Aside0.mk (blk_below (g := gb348) (o := .cells #[.int .i64 (rd t344 x19_1)] 3 (0, 0)) (by refine kP ?_;refine blk_put (cs := #[.int .i64 0]) ?_ 0 _ rfl;exact kP BK348.out) hb);have n6_ := Aside0.mk (below_step (by exact bB) hb);clear HO_5;clear HO_17;clear HO_344000;clear BK338;clear BK343;clear BK348;clear HB;have HO_5 := n0_;have HO_17 := n1_;have HO_344000 := n2_;have BK338 := n3_;have BK343 := n4_;have BK348 := n5_;have HB := n6_;clear n0_ n1_ n2_ n3_ n4_ n5_ n6_;(try clear hb);(try clear hb2);(try clear hk);(try clear hi);have hcz31_0 : w30.cell? ⟨gb348, 0, none⟩ = some (.int .i64 (rd t344 x19_1)) := (blk_cell BK348.out 0).trans rfl;have hfz31_0 := blk_frozen BK348.out 0;obtain ⟨Ao32, co32, eo32⟩ := Kd.R_slice HO_5.out;subst eo32) | (go_at_call 58;have hw_ := Option.some.inj A22.out;refine (containsFunc_calls 59 _ (enters_of Try.func59 (by kernel_rfl) rfl) (subF (rd t344 x19_1)) _ _ x5_1 _ ?side1 ?side2).mono ?_;(case side1 => exact cP (Kd.R_reads' HO_5.out).2.2);(case side2 => exact fun x hx W_ hb_ => sub_fn gb348 (rd t344 x19_1) x W_ (stop_at hb_ (by first | exact (blk_cell BK348.out 0).trans rfl | (go_simp;done) | (simp [*];done))));rintro e w' ⟨rfl, ⟨nd, rfl⟩⟩;(try rw [hw_]);(try clear hw_)))
         go_roundg k1
         case measure => have := HK1.out;omega
         case rel => exact ⟨(x5_1), (wrap64 (x19_1 + 1)), (by first | rfl | (simp;done) | (simp [*];done)), H', ⟨by have := HK1.out;omega⟩, ⟨by exact rP HO_5.out⟩, ⟨by exact rP HO_17.out⟩, ⟨by exact rP HO_344000.out⟩, ⟨by exact kP BK338.out⟩, ⟨by exact kP BK343.out⟩, ⟨by exact bB⟩⟩
        ·replace c23 := Bool.eq_false_iff.mpr c23
         subst c23
         have H1 : (if x5_1.length < 17592186044416 then (impl_FortsOf.l0 k1 (x5_1 ++ [rd t344 x19_1]) t344 (t344.length : Int) (wrap64 (x19_1 + 1)) t340) else (none)) = some (r1, r2) := by rw [if_neg (show ¬ (false = true) by decide)] at H;exact H
         clear H
         have H := H1
         clear H1
         by_cases c33 : x5_1.length < 17592186044416
         ·rw [if_pos c33] at H
          have LMc33 := Aside0.mk c33
          clear c33
          obtain ⟨y351, hy351⟩ : ∃ y_ : List Int, y_ = (x5_1 ++ [rd t344 x19_1]) := ⟨_, rfl⟩
          replace H : (impl_FortsOf.l0 k1 y351 t344 (t344.length : Int) (wrap64 (x19_1 + 1)) t340) = some (r1, r2) := by first | (rw [hy351];with_reducible exact H) | (have H2_ := (Option.bind_some _ _).symm.trans H;rw [hy351];with_reducible exact H2_) | (have H2_ := (Option.bind_some _ _).symm.trans H;with_reducible exact H2_) | with_reducible exact H | (rw [hy351];exact H) | exact H
          have Ny351 := Aside0.mk hy351
          clear hy351
          have H' := Aside0.mk H
          clear H
          have p347 : 0 ≤ (x19_1 : Int) := oA
          have q347 : x19_1 < (t344.length : Int) := oA
          obtain ⟨ad347, e347, hx347_0⟩ := Kd.at_int (Kd.R_reads' HO_17.out).2.2 x19_1 p347 q347
          cases e347
          replace p347 := eq_true p347
          replace q347 := eq_true q347
          go_wp2_with (first | ((with_reducible refine gate_dst (N := 7) rfl ?_);refine box_event ?hg (N := 7) ?hd (cs := #[.int .i64 0]) (t := 3) ?hr ?_;(case hd => rfl);(case hg => rfl);(case hr => first | (go_simp;done) | (go_simp;rfl));intro gb348 hg w34 hbox hb;have n0_ := Aside0.mk (Kd.R_below (Kd.R_elderB (by exact rP HO_5.out) gb348 (Nat.le_of_eq hg.symm)) hb);have n1_ := Aside0.mk (Kd.R_below (Kd.R_elderB (by exact rP HO_17.out) gb348 (Nat.le_of_eq hg.symm)) hb);have n2_ := Aside0.mk (Kd.R_below (Kd.R_elderB (by exact rP HO_344000.out) gb348 (Nat.le_of_eq hg.symm)) hb);have n3_ := Aside0.mk (blk_below (g := gb338) (o := .cells #[.int .i64 a0_0, .slice A0_1 l0_1.length c0_1] 29 (0, 0)) (by exact kP BK338.out) hb);have n4_ := Aside0.mk (blk_below (g := gb343) (o := .cells #[.slice Ao12 t340.length co12] 56 (0, 0)) (by exact kP BK343.out) hb);have n5_ := Aside0.mk (below_step (by exact bB) hb);have n6_ := Aside0.mk (hbox);have n7_ := Aside0.mk ((by rw [hg];exact (below_size (by exact bB)) : w.heap.size ≤ gb348));have n8_ := Aside0.mk ((by rw [hg];exact (below_size (by exact bB)) : w.heap.size ≤ gb348));have n9_ := Aside0.mk ((by rw [hg];exact Nat.ne_of_lt (blk_lt (g := gb338) (o := .cells #[.int .i64 a0_0, .slice A0_1 l0_1.length c0_1] 29 (0, 0)) (by exact kP BK338.out)) : gb338 ≠ gb348));have n10_ := Aside0.mk ((by rw [hg];exact Nat.ne_of_gt (blk_lt (g := gb338) (o := .cells #[.int .i64 a0_0, .slice A0_1 l0_1.length c0_1] 29 (0, 0)) (by exact kP BK338.out)) : gb348 ≠ gb338));have n11_ := Aside0.mk ((by rw [hg];exact Nat.ne_of_lt (blk_lt (g := gb343) (o := .cells #[.slice Ao12 t340.length co12] 56 (0, 0)) (by exact kP BK343.out)) : gb343 ≠ gb348));have n12_ := Aside0.mk ((by rw [hg];exact Nat.ne_of_gt (blk_lt (g := gb343) (o := .cells #[.slice Ao12 t340.length co12] 56 (0, 0)) (by exact kP BK343.out)) : gb348 ≠ gb343));clear HO_5;clear HO_17;clear HO_344000;clear BK338;clear BK343;clear HB;have HO_5 := n0_;have HO_17 := n1_;have HO_344000 := n2_;have BK338 := n3_;have BK343 := n4_;have HB := n5_;have BK348 := n6_;have GW348 := n7_;have GE348 := n8_;have NB338_348 := n9_;have NB348_338 := n10_;have NB343_348 := n11_;have NB348_343 := n12_;clear n0_ n1_ n2_ n3_ n4_ n5_ n6_ n7_ n8_ n9_ n10_ n11_ n12_;have NEgb348 := Aside0.mk (show some gb348 ≠ _ from fun he_ => (HO_5.out.1 _ he_.symm).2 rfl);clear hb hbox hg;have hnb35 := NB348_338.out;have hnc35 := NB338_348.out;have hnb36 := NB348_343.out;have hnc36 := NB343_348.out;have hcz37_0 : w34.cell? ⟨gb348, 0, none⟩ = some (.int .i64 0) := (blk_cell BK348.out 0).trans rfl;have hfz37_0 := blk_frozen BK348.out 0;have hnb38 := NB343_338.out;have hnc38 := NB338_343.out;have hcz39_0 : w34.cell? ⟨gb343, 0, none⟩ = some (.slice Ao12 t340.length co12) := (blk_cell BK343.out 0).trans rfl;have hfz39_0 := blk_frozen BK343.out 0) | ((with_reducible refine gate_callee (f := 57) rfl ?_);refine goesL_ (some 25) rfl rfl Try.func57 (by kernel_rfl) rfl #[.agg #[.slice Ao12 t340.length co12], .int .i64 (rd t344 x19_1)] rfl mM ?_;(with_reducible refine (impl_net_isFort.calls k1 _ _ t340 (rd t344 x19_1) true _ ?side1 ?side2 A20.out).mono ?_);(case side1 => refine (Kd.R_reads' (e := 3) (base := w.heap.size) (ok := fun k_ => (some k_ ≠ (u5 : Value).ownBlock ∧ some k_ ≠ (.slice (some ad347) t344.length co16 : Value).ownBlock)) (n := t340.length) (c := co12) ?_).2.2;exact (by refine rP ?_;exact (Kd.R_mono (Kd.R_far (p := ⟨gb348, 0, none⟩) HO_344000.out (fun _ hk => hk.2) (.int .i64 (rd t344 x19_1))) (fun _ h_ => h_.1))));(case side2 => exact (Kd.R_reads' HO_344000.out).2.1);rintro e w40 ⟨rfl, hb⟩;refine ⟨_, rfl, ?_⟩;have n0_ := Aside0.mk (Kd.R_below (by exact rP ((Kd.R_mono (Kd.R_far (p := ⟨gb348, 0, none⟩) HO_5.out (fun _ hk => hk.2) (.int .i64 (rd t344 x19_1))) (fun _ h_ => h_.1)))) hb);have n1_ := Aside0.mk (Kd.R_below (by exact rP ((Kd.R_mono (Kd.R_far (p := ⟨gb348, 0, none⟩) HO_17.out (fun _ hk => hk.2) (.int .i64 (rd t344 x19_1))) (fun _ h_ => h_.1)))) hb);have n2_ := Aside0.mk (Kd.R_below (by exact rP ((Kd.R_mono (Kd.R_far (p := ⟨gb348, 0, none⟩) HO_344000.out (fun _ hk => hk.2) (.int .i64 (rd t344 x19_1))) (fun _ h_ => h_.1)))) hb);have n3_ := Aside0.mk (blk_below (g := gb338) (o := .cells #[.int .i64 a0_0, .slice A0_1 l0_1.length c0_1] 29 (0, 0)) (by refine kP ?_;refine blk_far ?_ NB338_348.out _;exact kP BK338.out) hb);have n4_ := Aside0.mk (blk_below (g := gb343) (o := .cells #[.slice Ao12 t340.length co12] 56 (0, 0)) (by refine kP ?_;refine blk_far ?_ NB343_348.out _;exact kP BK343.out) hb);have n5_ := Aside0.mk (blk_below (g := gb348) (o := .cells #[.int .i64 (rd t344 x19_1)] 3 (0, 0)) (by refine kP ?_;refine blk_put (cs := #[.int .i64 0]) ?_ 0 _ rfl;exact kP BK348.out) hb);have n6_ := Aside0.mk (below_step (by exact bB) hb);clear HO_5;clear HO_17;clear HO_344000;clear BK338;clear BK343;clear BK348;clear HB;have HO_5 := n0_;have HO_17 := n1_;have HO_344000 := n2_;have BK338 := n3_;have BK343 := n4_;have BK348 := n5_;have HB := n6_;clear n0_ n1_ n2_ n3_ n4_ n5_ n6_;(try clear hb);(try clear hb2);(try clear hk);(try clear hi);have hcz41_0 : w40.cell? ⟨gb348, 0, none⟩ = some (.int .i64 (rd t344 x19_1)) := (blk_cell BK348.out 0).trans rfl;have hfz41_0 := blk_frozen BK348.out 0;obtain ⟨Ao42, co42, eo42⟩ := Kd.R_slice HO_5.out;subst eo42) | (go_at_call 58;have hw_ := Option.some.inj A22.out;refine (containsFunc_calls 59 _ (enters_of Try.func59 (by kernel_rfl) rfl) (subF (rd t344 x19_1)) _ _ x5_1 _ ?side1 ?side2).mono ?_;(case side1 => exact cP (Kd.R_reads' HO_5.out).2.2);(case side2 => exact fun x hx W_ hb_ => sub_fn gb348 (rd t344 x19_1) x W_ (stop_at hb_ (by first | exact (blk_cell BK348.out 0).trans rfl | (go_simp;done) | (simp [*];done))));rintro e w' ⟨rfl, ⟨nd, rfl⟩⟩;(try rw [hw_]);(try clear hw_)) | ((with_reducible refine gate_builtin (b := .append) (xs := #[.tmp 32, .tmp 34]) rfl ?_);at_builtin;refine Kd.R_append (Kd.int .i64) (w0 := w) w.heap.size rfl (.tmp 32) (.tmp 34) 25 3 (.int .i64 0) 8 rfl Try.underlying25 info3 rfl (by decide) (by omega) (.slice Ao42 x5_1.length co42) x5_1 (rd t344 x19_1) [.int .i64 (rd t344 x19_1)] (fun k_ => some k_ ≠ (.slice (some ad347) t344.length co16 : Value).ownBlock ∧ some k_ ≠ (.slice Ao12 t340.length co12 : Value).ownBlock) (fun _ => False) rfl rfl ?aP (fun _ hk => hk.elim) ?aF ?aO ?aB ?aS ?aL ?_;(case aP => exact rfl);(case aB => exact (by exact bB));(case aF => exact (fun k_ hk => ⟨Kd.fresh' (Kd.R_lt (by exact rP HO_17.out)) k_ hk, Kd.fresh' (Kd.R_lt (by exact rP HO_344000.out)) k_ hk⟩));(case aO => exact (by exact rP HO_5.out));(case aS => exact (below_size (by exact bB)));(case aL => have := LMc33.out;omega);intro v352 w43 ho hb hg hat;rw [← Ny351.out] at ho;have n0_ := Aside0.mk (Kd.R_after (ok := (fun k_ => some k_ ≠ (.slice Ao12 t340.length co12 : Value).ownBlock)) (by exact rP (Kd.R_mono HO_17.out (fun _ hk => ⟨hk.2, hk.1⟩))) hg hat);have n1_ := Aside0.mk (Kd.R_after (ok := (fun k_ => some k_ ≠ (.slice (some ad347) t344.length co16 : Value).ownBlock)) (by exact rP (Kd.R_mono HO_344000.out (fun _ hk => ⟨hk.2, hk.1⟩))) hg hat);have n2_ := Aside0.mk (blk_grown (g := gb338) (o := .cells #[.int .i64 a0_0, .slice A0_1 l0_1.length c0_1] 29 (0, 0)) (by exact kP BK338.out) hg (Kd.R_ne HO_5.out BK338.out (by decide)));have n3_ := Aside0.mk (blk_grown (g := gb343) (o := .cells #[.slice Ao12 t340.length co12] 56 (0, 0)) (by exact kP BK343.out) hg (Kd.R_ne HO_5.out BK343.out (by decide)));have n4_ := Aside0.mk (blk_grown (g := gb348) (o := .cells #[.int .i64 (rd t344 x19_1)] 3 (0, 0)) (by exact kP BK348.out) hg (NEgb348.out));have n5_ := Aside0.mk (hb);have n6_ := Aside0.mk (ho);clear HO_17;clear HO_344000;clear BK338;clear BK343;clear BK348;clear HB;clear HO_5;have HO_17 := n0_;have HO_344000 := n1_;have BK338 := n2_;have BK343 := n3_;have BK348 := n4_;have HB := n5_;have HO353 := n6_;clear n0_ n1_ n2_ n3_ n4_ n5_ n6_;clear ho hb hg hat))
          go_roundg k1
          case measure => have := HK1.out;omega
          case rel => exact ⟨(y351), (wrap64 (x19_1 + 1)), (by first | rfl | (simp;done) | (simp [*];done)), H', ⟨by have := HK1.out;omega⟩, ⟨by exact rP HO353.out⟩, ⟨by refine rP ?_;exact Kd.R_mono HO_17.out (fun _ hk => ⟨hk.2, hk.1⟩)⟩, ⟨by refine rP ?_;exact Kd.R_mono HO_344000.out (fun _ hk => ⟨hk.2, hk.1⟩)⟩, ⟨by exact kP BK338.out⟩, ⟨by exact kP BK343.out⟩, ⟨by exact bB⟩⟩
         ·rw [if_neg c33] at H
          exact absurd H (by simp)
       ·replace c21 := Bool.eq_false_iff.mpr c21
        subst c21
        have H1 : (impl_FortsOf.l0 k1 x5_1 t344 (t344.length : Int) (wrap64 (x19_1 + 1)) t340) = some (r1, r2) := by rw [if_neg (show ¬ (false = true) by decide)] at H;exact H
        clear H
        have H := H1
        clear H1
        have H' := Aside0.mk H
        clear H
        have p347 : 0 ≤ (x19_1 : Int) := oA
        have q347 : x19_1 < (t344.length : Int) := oA
        obtain ⟨ad347, e347, hx347_0⟩ := Kd.at_int (Kd.R_reads' HO_17.out).2.2 x19_1 p347 q347
        cases e347
        replace p347 := eq_true p347
        replace q347 := eq_true q347
        go_wp2_with (first | ((with_reducible refine gate_dst (N := 7) rfl ?_);refine box_event ?hg (N := 7) ?hd (cs := #[.int .i64 0]) (t := 3) ?hr ?_;(case hd => rfl);(case hg => rfl);(case hr => first | (go_simp;done) | (go_simp;rfl));intro gb348 hg w44 hbox hb;have n0_ := Aside0.mk (Kd.R_below (Kd.R_elderB (by exact rP HO_5.out) gb348 (Nat.le_of_eq hg.symm)) hb);have n1_ := Aside0.mk (Kd.R_below (Kd.R_elderB (by exact rP HO_17.out) gb348 (Nat.le_of_eq hg.symm)) hb);have n2_ := Aside0.mk (Kd.R_below (Kd.R_elderB (by exact rP HO_344000.out) gb348 (Nat.le_of_eq hg.symm)) hb);have n3_ := Aside0.mk (blk_below (g := gb338) (o := .cells #[.int .i64 a0_0, .slice A0_1 l0_1.length c0_1] 29 (0, 0)) (by exact kP BK338.out) hb);have n4_ := Aside0.mk (blk_below (g := gb343) (o := .cells #[.slice Ao12 t340.length co12] 56 (0, 0)) (by exact kP BK343.out) hb);have n5_ := Aside0.mk (below_step (by exact bB) hb);have n6_ := Aside0.mk (hbox);have n7_ := Aside0.mk ((by rw [hg];exact (below_size (by exact bB)) : w.heap.size ≤ gb348));have n8_ := Aside0.mk ((by rw [hg];exact (below_size (by exact bB)) : w.heap.size ≤ gb348));have n9_ := Aside0.mk ((by rw [hg];exact Nat.ne_of_lt (blk_lt (g := gb338) (o := .cells #[.int .i64 a0_0, .slice A0_1 l0_1.length c0_1] 29 (0, 0)) (by exact kP BK338.out)) : gb338 ≠ gb348));have n10_ := Aside0.mk ((by rw [hg];exact Nat.ne_of_gt (blk_lt (g := gb338) (o := .cells #[.int .i64 a0_0, .slice A0_1 l0_1.length c0_1] 29 (0, 0)) (by exact kP BK338.out)) : gb348 ≠ gb338));have n11_ := Aside0.mk ((by rw [hg];exact Nat.ne_of_lt (blk_lt (g := gb343) (o := .cells #[.slice Ao12 t340.length co12] 56 (0, 0)) (by exact kP BK343.out)) : gb343 ≠ gb348));have n12_ := Aside0.mk ((by rw [hg];exact Nat.ne_of_gt (blk_lt (g := gb343) (o := .cells #[.slice Ao12 t340.length co12] 56 (0, 0)) (by exact kP BK343.out)) : gb348 ≠ gb343));clear HO_5;clear HO_17;clear HO_344000;clear BK338;clear BK343;clear HB;have HO_5 := n0_;have HO_17 := n1_;have HO_344000 := n2_;have BK338 := n3_;have BK343 := n4_;have HB := n5_;have BK348 := n6_;have GW348 := n7_;have GE348 := n8_;have NB338_348 := n9_;have NB348_338 := n10_;have NB343_348 := n11_;have NB348_343 := n12_;clear n0_ n1_ n2_ n3_ n4_ n5_ n6_ n7_ n8_ n9_ n10_ n11_ n12_;have NEgb348 := Aside0.mk (show some gb348 ≠ _ from fun he_ => (HO_5.out.1 _ he_.symm).2 rfl);clear hb hbox hg;have hnb45 := NB348_338.out;have hnc45 := NB338_348.out;have hnb46 := NB348_343.out;have hnc46 := NB343_348.out;have hcz47_0 : w44.cell? ⟨gb348, 0, none⟩ = some (.int .i64 0) := (blk_cell BK348.out 0).trans rfl;have hfz47_0 := blk_frozen BK348.out 0;have hnb48 := NB343_338.out;have hnc48 := NB338_343.out;have hcz49_0 : w44.cell? ⟨gb343, 0, none⟩ = some (.slice Ao12 t340.length co12) := (blk_cell BK343.out 0).trans rfl;have hfz49_0 := blk_frozen BK343.out 0) | ((with_reducible refine gate_callee (f := 57) rfl ?_);refine goesL_ (some 25) rfl rfl Try.func57 (by kernel_rfl) rfl #[.agg #[.slice Ao12 t340.length co12], .int .i64 (rd t344 x19_1)] rfl mM ?_;(with_reducible refine (impl_net_isFort.calls k1 _ _ t340 (rd t344 x19_1) false _ ?side1 ?side2 A20.out).mono ?_);(case side1 => refine (Kd.R_reads' (e := 3) (base := w.heap.size) (ok := fun k_ => (some k_ ≠ (u5 : Value).ownBlock ∧ some k_ ≠ (.slice (some ad347) t344.length co16 : Value).ownBlock)) (n := t340.length) (c := co12) ?_).2.2;exact (by refine rP ?_;exact (Kd.R_mono (Kd.R_far (p := ⟨gb348, 0, none⟩) HO_344000.out (fun _ hk => hk.2) (.int .i64 (rd t344 x19_1))) (fun _ h_ => h_.1))));(case side2 => exact (Kd.R_reads' HO_344000.out).2.1);rintro e w50 ⟨rfl, hb⟩;refine ⟨_, rfl, ?_⟩;have n0_ := Aside0.mk (Kd.R_below (by exact rP ((Kd.R_mono (Kd.R_far (p := ⟨gb348, 0, none⟩) HO_5.out (fun _ hk => hk.2) (.int .i64 (rd t344 x19_1))) (fun _ h_ => h_.1)))) hb);have n1_ := Aside0.mk (Kd.R_below (by exact rP ((Kd.R_mono (Kd.R_far (p := ⟨gb348, 0, none⟩) HO_17.out (fun _ hk => hk.2) (.int .i64 (rd t344 x19_1))) (fun _ h_ => h_.1)))) hb);have n2_ := Aside0.mk (Kd.R_below (by exact rP ((Kd.R_mono (Kd.R_far (p := ⟨gb348, 0, none⟩) HO_344000.out (fun _ hk => hk.2) (.int .i64 (rd t344 x19_1))) (fun _ h_ => h_.1)))) hb);have n3_ := Aside0.mk (blk_below (g := gb338) (o := .cells #[.int .i64 a0_0, .slice A0_1 l0_1.length c0_1] 29 (0, 0)) (by refine kP ?_;refine blk_far ?_ NB338_348.out _;exact kP BK338.out) hb);have n4_ := Aside0.mk (blk_below (g := gb343) (o := .cells #[.slice Ao12 t340.length co12] 56 (0, 0)) (by refine kP ?_;refine blk_far ?_ NB343_348.out _;exact kP BK343.out) hb);have n5_ := Aside0.mk (blk_below (g := gb348) (o := .cells #[.int .i64 (rd t344 x19_1)] 3 (0, 0)) (by refine kP ?_;refine blk_put (cs := #[.int .i64 0]) ?_ 0 _ rfl;exact kP BK348.out) hb);have n6_ := Aside0.mk (below_step (by exact bB) hb);clear HO_5;clear HO_17;clear HO_344000;clear BK338;clear BK343;clear BK348;clear HB;have HO_5 := n0_;have HO_17 := n1_;have HO_344000 := n2_;have BK338 := n3_;have BK343 := n4_;have BK348 := n5_;have HB := n6_;clear n0_ n1_ n2_ n3_ n4_ n5_ n6_;(try clear hb);(try clear hb2);(try clear hk);(try clear hi)))
        go_roundg k1
        case measure => have := HK1.out;omega
        case rel => exact ⟨(x5_1), (wrap64 (x19_1 + 1)), (by first | rfl | (simp;done) | (simp [*];done)), H', ⟨by have := HK1.out;omega⟩, ⟨by exact rP HO_5.out⟩, ⟨by exact rP HO_17.out⟩, ⟨by exact rP HO_344000.out⟩, ⟨by exact kP BK338.out⟩, ⟨by exact kP BK343.out⟩, ⟨by exact bB⟩⟩
      ·rw [if_neg c19] at H
       exact absurd H (by simp)
     ·rw [if_neg c18] at H
      exact absurd H (by simp)
    ·rw [if_neg c17] at H
     have c17b0 : decide (x19_1 < (t344.length : Int)) = false := decide_eq_false c17
     clear c17
     have H' := Aside0.mk H
     clear H
     obtain ⟨Ao51, co51, eo51⟩ := Kd.R_slice HO_5.out
     subst eo51
     go_wp2
     go_loopg [8, 39] k1 (fun kq v8 v39 w' => ∃ (x8_2 : List (List Int)) (x39_2 : Int), v39 = .int .i64 x39_2 ∧ Aside0 (impl_FortsOf.l1 kq x8_2 x5_1 (x5_1.length : Int) x39_2 = some (r1, r2)) ∧ Aside0 (kq ≤ k1) ∧ Aside0 (Kd.S (Kd.slice 3 (Kd.int .i64)) 25 w' w.heap.size (fun k_ => some k_ ≠ ((.slice Ao51 x5_1.length co51) : Value).ownBlock ∧ some k_ ≠ ((.slice Ao12 t340.length co12) : Value).ownBlock) v8 x8_2) ∧ Aside0 (Kd.R (Kd.int .i64) 3 w' w.heap.size (fun k_ => some k_ ≠ ((.slice Ao12 t340.length co12) : Value).ownBlock) (.slice Ao51 x5_1.length co51) x5_1) ∧ Aside0 (Kd.R (Kd.int .i64) 3 w' w.heap.size (fun k_ => some k_ ≠ ((.slice Ao51 x5_1.length co51) : Value).ownBlock) (.slice Ao12 t340.length co12) t340) ∧ Aside0 (w'.heap[gb338]? = some (.cells #[.int .i64 a0_0, (.slice A0_1 l0_1.length c0_1)] 29 (0, 0))) ∧ Aside0 (w'.heap[gb343]? = some (.cells #[(.slice Ao12 t340.length co12)] 56 (0, 0))) ∧ Aside0 (Below w.heap.size w w'))
     case atStart => exact ⟨(([] : List (List Int))), (0), (by first | rfl | (simp;done) | (simp [*];done)), H', ⟨Nat.le_refl _⟩, ⟨by first | exact Kd.S_nil _ _ _ _ _ | exact Kd.N_nil _ _ _ _ _ | exact Kd.V_nil _ _ _ _ _ | exact Kd.Q_nil _ _ _ _ _ | exact Kd.R_nil _ _ _ _ _⟩, ⟨by refine rP ?_;exact Kd.R_mono HO_5.out (fun _ hk => hk.2)⟩, ⟨by refine rP ?_;exact Kd.R_mono HO_344000.out (fun _ hk => hk.1)⟩, ⟨by exact kP BK338.out⟩, ⟨by exact kP BK343.out⟩, ⟨by exact bB⟩⟩
     case round =>
      clear H'
      try clear c1
      try clear c2
      try clear p2
      try clear c3
      try clear p3
      try clear q3
      try clear hx3
      try clear c4
      try clear c5
      try clear p6
      try clear c13
      try clear c17
      try clear c17b0
      try clear c18
      try clear c18b0
      try clear c19
      try clear c19b0
      try clear c21
      try clear c23
      try clear c25
      try clear c26
      try clear c28
      try clear c31
      try clear c33
      try clear p34
      try clear q34
      try clear hx34
      try clear c35
      try clear c36
      try clear c38
      try clear c40
      try clear c45
      try clear c46
      try clear c48
      try clear hcz14_0
      try clear hcz27_0
      try clear hcz29_0
      try clear hcz31_0
      try clear hcz37_0
      try clear hcz39_0
      try clear hcz41_0
      try clear hcz47_0
      try clear hcz49_0
      try clear hcz7_0
      try clear hcz7_1
      try clear hcz9_0
      try clear hcz9_1
      try clear hfz14_0
      try clear hfz27_0
      try clear hfz29_0
      try clear hfz31_0
      try clear hfz37_0
      try clear hfz39_0
      try clear hfz41_0
      try clear hfz47_0
      try clear hfz49_0
      try clear hfz7_0
      try clear hfz7_1
      try clear hfz9_0
      try clear hfz9_1
      try clear hx347_0
      try clear p2
      try clear p347
      try clear q347
      obtain ⟨x8_2, x39_2, rfl, HA, HK2, HO_8, HO_37, HO_344000, BK338, BK343, HB⟩ := hrel
      cases gk with
      | zero => exact absurd HA.out (by simp [impl_FortsOf.l1])
      | succ k2 =>
       have H := HA.out
       clear HA
       simp only [impl_FortsOf.l1] at H
       by_cases c52 : x39_2 < (x5_1.length : Int)
       ·rw [if_pos c52] at H
        have c52b0 : decide (x39_2 < (x5_1.length : Int)) = true := decide_eq_true c52
        clear c52
        by_cases c53 : 0 ≤ x39_2
        ·rw [if_pos c53] at H
         have c53b0 : decide (0 ≤ x39_2) = true := decide_eq_true c53
         clear c53
         by_cases c54 : x39_2 < (x5_1.length : Int)
         ·rw [if_pos c54] at H
          have c54b0 : decide (x39_2 < (x5_1.length : Int)) = true := decide_eq_true c54
          clear c54
          replace H := Option.bind_eq_some_iff.mp H
          obtain ⟨t355, A550, H⟩ := H
          replace H : (if x8_2.length < 5864062014805 then (impl_FortsOf.l1 k2 (x8_2 ++ [t355]) x5_1 (x5_1.length : Int) (wrap64 (x39_2 + 1))) else (none)) = some (r1, r2) := H
          have A55 := Aside0.mk A550
          clear A550
          by_cases c56 : x8_2.length < 5864062014805
          ·rw [if_pos c56] at H
           have LMc56 := Aside0.mk c56
           clear c56
           obtain ⟨y358, hy358⟩ : ∃ y_ : List (List Int), y_ = (x8_2 ++ [t355]) := ⟨_, rfl⟩
           replace H : (impl_FortsOf.l1 k2 y358 x5_1 (x5_1.length : Int) (wrap64 (x39_2 + 1))) = some (r1, r2) := by first | (rw [hy358];with_reducible exact H) | (have H2_ := (Option.bind_some _ _).symm.trans H;rw [hy358];with_reducible exact H2_) | (have H2_ := (Option.bind_some _ _).symm.trans H;with_reducible exact H2_) | with_reducible exact H | (rw [hy358];exact H) | exact H
           have Ny358 := Aside0.mk hy358
           clear hy358
           have H' := Aside0.mk H
           clear H
           have p354 : 0 ≤ (x39_2 : Int) := oA
           have q354 : x39_2 < (x5_1.length : Int) := oA
           obtain ⟨ad354, e354, hx354_0⟩ := Kd.at_int (Kd.R_reads' HO_37.out).2.2 x39_2 p354 q354
           cases e354
           replace p354 := eq_true p354
           replace q354 := eq_true q354
           go_wp2_with (first | ((with_reducible refine gate_callee (f := 46) rfl ?_);refine goesL_ (some 45) rfl rfl Try.func46 (by kernel_rfl) rfl #[.int .i64 (rd x5_1 x39_2)] rfl mM ?_;(with_reducible refine (impl_setOf.calls k2 (rd x5_1 x39_2) t355 _ A55.out).mono ?_);rintro e w57 ⟨v356, rfl, ho0, hb⟩;refine ⟨_, rfl, ?_⟩;have n0_ := Aside0.mk (Kd.S_elder' (by (with_reducible repeat (first | apply Kd.S_alloc | apply Kd.S_drewN | apply Kd.S_drew));exact HO_8.out) (Kd.R_base ho0) hb);have n1_ := Aside0.mk (Kd.R_elder' (by exact rP HO_37.out) (Kd.R_base ho0) hb);have n2_ := Aside0.mk (Kd.R_elder' (by exact rP HO_344000.out) (Kd.R_base ho0) hb);have n3_ := Aside0.mk (Kd.R_lower (Kd.R_new' (Kd.R_new' ho0 (Kd.R_lt (by exact rP HO_37.out))) (Kd.R_lt (by exact rP HO_344000.out))) (below_size (by exact bB)));have n4_ := Aside0.mk (blk_below (g := gb338) (o := .cells #[.int .i64 a0_0, .slice A0_1 l0_1.length c0_1] 29 (0, 0)) (by exact kP BK338.out) hb);have n5_ := Aside0.mk (blk_below (g := gb343) (o := .cells #[.slice Ao12 t340.length co12] 56 (0, 0)) (by exact kP BK343.out) hb);have n6_ := Aside0.mk (below_step (by exact bB) hb);clear HO_8;clear HO_37;clear HO_344000;clear BK338;clear BK343;clear HB;have HO_8 := n0_;have HO_37 := n1_;have HO_344000 := n2_;have HO357 := n3_;have BK338 := n4_;have BK343 := n5_;have HB := n6_;clear n0_ n1_ n2_ n3_ n4_ n5_ n6_;(try clear hb);(try clear hb2);(try clear hk);(try clear hi);(try clear ho0);obtain ⟨Ao59, co59, eo59⟩ := Kd.R_slice HO357.out;subst eo59) | ((with_reducible refine gate_builtin (b := .append) (xs := #[.tmp 43, .tmp 46]) rfl ?_);at_builtin;refine Kd.S_append (Kd.slice 3 (Kd.int .i64)) (w0 := w) w.heap.size rfl (.tmp 43) (.tmp 46) 37 25 (.slice none 0 0) 24 rfl Try.underlying37 info25 rfl (by decide) (by omega) u8 x8_2 t355 [.slice Ao59 t355.length co59] (fun k_ => some k_ ≠ (.slice (some ad354) x5_1.length co51 : Value).ownBlock ∧ some k_ ≠ (.slice Ao12 t340.length co12 : Value).ownBlock) (fun k_ => some k_ = (.slice Ao59 t355.length co59 : Value).ownBlock) rfl rfl ?aP (fun k_ hk_ => ((Kd.R_mono (ok' := fun k_ => ((fun k_ => some k_ ≠ (.slice (some ad354) x5_1.length co51 : Value).ownBlock ∧ some k_ ≠ (.slice Ao12 t340.length co12 : Value).ownBlock)) k_ ∧ some k_ ≠ (u8 : Value).ownBlock) (Kd.R_apart' (HO357.out) (Kd.S_typed HO_8.out) (by decide)) (fun k_ hk => ⟨⟨hk.1.1.2, hk.1.2⟩, hk.2⟩))).1 k_ hk_.symm) ?aF ?aO ?aB ?aS ?aL ?_;(case aP => exact Kd.M_row (Kd.R_mono (Kd.R_tight rfl (Kd.R_mono (ok' := fun k_ => ((fun k_ => some k_ ≠ (.slice (some ad354) x5_1.length co51 : Value).ownBlock ∧ some k_ ≠ (.slice Ao12 t340.length co12 : Value).ownBlock)) k_ ∧ some k_ ≠ (u8 : Value).ownBlock) (Kd.R_apart' (HO357.out) (Kd.S_typed HO_8.out) (by decide)) (fun k_ hk => ⟨⟨hk.1.1.2, hk.1.2⟩, hk.2⟩))) (fun _ h_ => h_)));(case aB => exact (by exact bB));(case aF => exact (fun k_ hk => ⟨Kd.fresh' (Kd.R_lt (by exact rP HO_37.out)) k_ hk, Kd.fresh' (Kd.R_lt (by exact rP HO_344000.out)) k_ hk⟩));(case aO => exact (by (with_reducible repeat (first | apply Kd.S_alloc | apply Kd.S_drewN | apply Kd.S_drew));exact Kd.S_mono HO_8.out (fun k_ hk => ⟨⟨hk.1.1, hk.1.2⟩, fun e_ => hk.2 e_⟩)));(case aS => exact (below_size (by exact bB)));(case aL => have := LMc56.out;omega);intro v359 w58 ho hb hg hat;rw [← Ny358.out] at ho;have n0_ := Aside0.mk (Kd.R_over' (by exact rP HO_37.out) (Kd.S_typed (by (with_reducible repeat (first | apply Kd.S_alloc | apply Kd.S_drewN | apply Kd.S_drew));exact HO_8.out)) (by decide) hg);have n1_ := Aside0.mk (Kd.R_over' (by exact rP HO_344000.out) (Kd.S_typed (by (with_reducible repeat (first | apply Kd.S_alloc | apply Kd.S_drewN | apply Kd.S_drew));exact HO_8.out)) (by decide) hg);have n2_ := Aside0.mk (blk_grown (g := gb338) (o := .cells #[.int .i64 a0_0, .slice A0_1 l0_1.length c0_1] 29 (0, 0)) (by exact kP BK338.out) hg (Kd.S_ne HO_8.out BK338.out (by decide)));have n3_ := Aside0.mk (blk_grown (g := gb343) (o := .cells #[.slice Ao12 t340.length co12] 56 (0, 0)) (by exact kP BK343.out) hg (Kd.S_ne HO_8.out BK343.out (by decide)));have n4_ := Aside0.mk (hb);have n5_ := Aside0.mk (ho);clear HO_37;clear HO_344000;clear BK338;clear BK343;clear HB;clear HO_8;clear HO357;have HO_37 := n0_;have HO_344000 := n1_;have BK338 := n2_;have BK343 := n3_;have HB := n4_;have HO360 := n5_;clear n0_ n1_ n2_ n3_ n4_ n5_;clear ho hb hg hat))
           go_roundg k2
           case measure => have := HK1.out;have := HK2.out;omega
           case rel => exact ⟨(y358), (wrap64 (x39_2 + 1)), (by first | rfl | (simp;done) | (simp [*];done)), H', ⟨by have := HK1.out;have := HK2.out;omega⟩, ⟨by (with_reducible repeat (first | apply Kd.S_alloc | apply Kd.S_drewN | apply Kd.S_drew));exact HO360.out⟩, ⟨by refine rP ?_;exact Kd.R_mono HO_37.out (fun _ hk => hk.1)⟩, ⟨by refine rP ?_;exact Kd.R_mono HO_344000.out (fun _ hk => hk.1)⟩, ⟨by exact kP BK338.out⟩, ⟨by exact kP BK343.out⟩, ⟨by exact bB⟩⟩
          ·rw [if_neg c56] at H
           exact absurd H (by simp)
         ·rw [if_neg c54] at H
          exact absurd H (by simp)
        ·rw [if_neg c53] at H
         exact absurd H (by simp)
       ·rw [if_neg c52] at H
        have c52b0 : decide (x39_2 < (x5_1.length : Int)) = false := decide_eq_false c52
        clear c52
        simp only [Option.some.injEq, Prod.mk.injEq] at H
        obtain ⟨rfl, rfl⟩ := H
        go_wp2
        go_ret2
        exact ⟨_, by first | rfl | (simp [errW_none, errW_some] <;> rfl) | (simp [*, errW_none, errW_some] <;> rfl), by (with_reducible repeat (first | apply Kd.S_alloc | apply Kd.S_drewN | apply Kd.S_drew));exact Kd.S_mono HO_8.out (fun _ hk => trivial), by exact bB⟩
 ·replace c3 := Bool.eq_false_iff.mpr c3
  subst c3
  have H1 : (some (([] : List (List Int)), false)) = some (r1, r2) := by rw [if_neg (show ¬ (false = true) by decide)] at H;exact H
  clear H
  have H := H1
  clear H1
  simp only [Option.some.injEq, Prod.mk.injEq] at H
  obtain ⟨rfl, rfl⟩ := H
  go_enter Try.func31, Try.ntmps31
  go_wp2_with (first | ((with_reducible refine gate_dst (N := 1) rfl ?_);refine box_event ?hg (N := 1) ?hd (cs := #[.int .i64 a0_0, .slice A0_1 l0_1.length c0_1]) (t := 29) ?hr ?_;(case hd => rfl);(case hg => rfl);(case hr => first | (go_simp;done) | (go_simp;rfl));intro gb338 hg w60 hbox hb;have n0_ := Aside0.mk (below_step (by exact bB) hb);have n1_ := Aside0.mk (hbox);have n2_ := Aside0.mk ((by rw [hg];exact (below_size (by exact bB)) : w.heap.size ≤ gb338));have n3_ := Aside0.mk ((by rw [hg];exact (below_size (by exact bB)) : w.heap.size ≤ gb338));clear HB;have HB := n0_;have BK338 := n1_;have GW338 := n2_;have GE338 := n3_;clear n0_ n1_ n2_ n3_;clear hb hbox hg;have hcz61_0 : w60.cell? ⟨gb338, 0, none⟩ = some (.int .i64 a0_0) := (blk_cell BK338.out 0).trans rfl;have hcz61_1 : w60.cell? ⟨gb338, 1, none⟩ = some (.slice A0_1 l0_1.length c0_1) := (blk_cell BK338.out 1).trans rfl;have hfz61_0 := blk_frozen BK338.out 0;have hfz61_1 := blk_frozen BK338.out 1) | ((with_reducible refine gate_callee (f := 38) rfl ?_);refine goesL_ (some 12) rfl rfl Try.func38 (by kernel_rfl) rfl #[.agg #[.int .i64 a0_0, .slice A0_1 l0_1.length c0_1]] rfl mM ?_;(with_reducible refine (impl_IsGraph.calls a0_0 _ _ l0_1 false _ ?side1 ?side2 A2.out).mono ?_);(case side1 => exact cP (Kd.C_below HR0_1.out HB.out));(case side2 => exact HC0_1.out);rintro e w62 ⟨rfl, hb⟩;refine ⟨_, rfl, ?_⟩;have n0_ := Aside0.mk (blk_below (g := gb338) (o := .cells #[.int .i64 a0_0, .slice A0_1 l0_1.length c0_1] 29 (0, 0)) (by exact kP BK338.out) hb);have n1_ := Aside0.mk (below_step (by exact bB) hb);clear BK338;clear HB;have BK338 := n0_;have HB := n1_;clear n0_ n1_;(try clear hb);(try clear hb2);(try clear hk);(try clear hi)))
  go_ret2
  exact ⟨_, by first | rfl | (simp [errW_none, errW_some] <;> rfl) | (simp [*, errW_none, errW_some] <;> rfl), by first | exact Kd.S_nil _ _ _ _ _ | exact Kd.N_nil _ _ _ _ _ | exact Kd.V_nil _ _ _ _ _ | exact Kd.Q_nil _ _ _ _ _ | exact Kd.R_nil _ _ _ _ _, by exact bB⟩




end Go.Proofs.Ytaddgielnfhhpaa.QFortsOf
