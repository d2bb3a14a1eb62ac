import Derived.Test.YtaddgielnfhhpaaQLeastCliqueCover0
import Derived.Test.YtaddgielnfhhpaaQLeastCliqueCover7
import Derived.Test.YtaddgielnfhhpaaQLeastCliqueCover9
namespace Go.Proofs.Ytaddgielnfhhpaa.QLeastCliqueCover
open Go.RowKit Go.Proofs.YtaddgielnfhhpaaW.PrintWords Go.Proofs.YtaddgielnfhhpaaW.PrintLast Go.Proofs.YtaddgielnfhhpaaW.PrintMore
attribute [local go_sem] max2_int min2_int max_two min_two max_three min_three max_four min_four   -- for this text's walks alone
set_option linter.unusedVariables false
set_option linter.unusedSimpArgs false
/-! ### impl_LeastCliqueCover: function 19 -/
mutual
def impl_LeastCliqueCover.l0 : Nat → Int → Int → List Int → Option ((List (List Int)) × Bool)
 | 0, _, _, _ => none
 | k + 1, x18, x19, x239000 => if x19 < x18 then ((impl_net_coverBy.f k x239000 x19 0 ([] : List Int)).bind fun bt239 => (if bt239.2 = true then (impl_LeastCliqueCover.l1 k ([] : List (List Int)) bt239.1 (bt239.1.length : Int) 0) else (impl_LeastCliqueCover.l0 k x18 (wrap64 (x19 + 1)) x239000))) else (some (([] : List (List Int)), false))
def impl_LeastCliqueCover.l1 : Nat → List (List Int) → List Int → Int → Int → Option ((List (List Int)) × Bool)
 | 0, _, _, _, _ => none
 | k + 1, x8, x29, x30, x31 => if x31 < x30 then (if 0 ≤ x31 then (if x31 < (x29.length : Int) then ((impl_setOf.f k (rd x29 x31)).bind fun t244 => (if x8.length < 5864062014805 then (impl_LeastCliqueCover.l1 k (x8 ++ [t244]) x29 x30 (wrap64 (x31 + 1))) else (none))) else (none)) else (none)) else (some (x8, true))
end
def impl_LeastCliqueCover.f (k : Nat) (a0_0 : Int) (l0_1 : List (S80)) : Option ((List (List Int)) × Bool) := (impl_IsGraph.f a0_0 l0_1).bind fun t234 => (if t234 = true then ((impl_netOf.f a0_0 l0_1).bind fun t235 => (impl_LeastCliqueCover.l0 k (wrap64 (a0_0 + 1)) 0 t235)) else (some (([] : List (List Int)), false)))
theorem impl_LeastCliqueCover.mono_l : ∀ k, (∀ y0 y1 y2, LeO (impl_LeastCliqueCover.l0 k y0 y1 y2) (impl_LeastCliqueCover.l0 (k + 1) y0 y1 y2)) ∧ (∀ y0 y1 y2 y3, LeO (impl_LeastCliqueCover.l1 k y0 y1 y2 y3) (impl_LeastCliqueCover.l1 (k + 1) y0 y1 y2 y3))
 | 0 => ⟨fun _ _ _ r h => by simp [impl_LeastCliqueCover.l0] at h, fun _ _ _ _ r h => by simp [impl_LeastCliqueCover.l1] at h⟩
 | k + 1 => by
  obtain ⟨ih0, ih1⟩ := impl_LeastCliqueCover.mono_l k
  refine ⟨?_, ?_⟩
  ·intro y0 y1 y2
   unfold impl_LeastCliqueCover.l0
   repeat' first
   | (with_reducible exact ih0 _ _ _)
   | (with_reducible exact ih1 _ _ _ _)
   | (with_reducible exact impl_net_coverBy.mono _ _ _ _ _)
   | (with_reducible exact impl_setOf.mono _ _)
   | (with_reducible exact LeO.refl _)
   | (with_reducible exact LeO.none _)
   | (with_reducible refine LeO.ite ?_ ?_)
   | (with_reducible refine LeO.bind ?_ (fun _ => ?_))
   | exact ih0 _ _ _
   | exact ih1 _ _ _ _
   | exact impl_net_coverBy.mono _ _ _ _ _
   | exact impl_setOf.mono _ _
   | exact LeO.none _
   | refine LeO.ite ?_ ?_
   | refine LeO.bind ?_ (fun _ => ?_)
  ·intro y0 y1 y2 y3
   unfold impl_LeastCliqueCover.l1
   repeat' first
   | (with_reducible exact ih0 _ _ _)
   | (with_reducible exact ih1 _ _ _ _)
   | (with_reducible exact impl_net_coverBy.mono _ _ _ _ _)
   | (with_reducible exact impl_setOf.mono _ _)
   | (with_reducible exact LeO.refl _)
   | (with_reducible exact LeO.none _)
   | (with_reducible refine LeO.ite ?_ ?_)
   | (with_reducible refine LeO.bind ?_ (fun _ => ?_))
   | exact ih0 _ _ _
   | exact ih1 _ _ _ _
   | exact impl_net_coverBy.mono _ _ _ _ _
   | exact impl_setOf.mono _ _
   | exact LeO.none _
   | refine LeO.ite ?_ ?_
   | refine LeO.bind ?_ (fun _ => ?_)
theorem impl_LeastCliqueCover.mono : ∀ a0 a1 k, LeO (impl_LeastCliqueCover.f k a0 a1) (impl_LeastCliqueCover.f (k + 1) a0 a1) := by
 intro a0 a1 k
 obtain ⟨ih0, ih1⟩ := impl_LeastCliqueCover.mono_l k
 unfold impl_LeastCliqueCover.f
 repeat' first
   | (with_reducible exact ih0 _ _ _)
   | (with_reducible exact ih1 _ _ _ _)
   | (with_reducible exact impl_net_coverBy.mono _ _ _ _ _)
   | (with_reducible exact impl_setOf.mono _ _)
   | (with_reducible exact LeO.refl _)
   | (with_reducible exact LeO.none _)
   | (with_reducible refine LeO.ite ?_ ?_)
   | (with_reducible refine LeO.bind ?_ (fun _ => ?_))
   | exact ih0 _ _ _
   | exact ih1 _ _ _ _
   | exact impl_net_coverBy.mono _ _ _ _ _
   | exact impl_setOf.mono _ _
   | exact LeO.none _
   | refine LeO.ite ?_ ?_
   | refine LeO.bind ?_ (fun _ => ?_)
set_option maxHeartbeats 8000000 in
set_option maxRecDepth 100000 in
theorem impl_LeastCliqueCover.calls (k : Nat) (a0_0 : Int) (A0_1 : Option Addr) (c0_1 : Nat) (l0_1 : List (S80)) (r1 : List (List Int)) (r2 : Bool) (w : World) (hr0_1 : Kd.C k80 w A0_1 l0_1.length l0_1) (hc0_1 : l0_1.length ≤ c0_1) (h : impl_LeastCliqueCover.f k a0_0 l0_1 = some (r1, r2)) :
  Calls Try.prog 19 #[.agg #[.int .i64 a0_0, .slice A0_1 l0_1.length c0_1]] w fun e w' => ∃ v0_ : Value, e = .returned (.tuple #[v0_, .bool r2]) ∧ Kd.S (Kd.slice 3 (Kd.int .i64)) 25 w' w.heap.size (fun _ => True) v0_ r1 ∧ Below w.heap.size w w' := by
 have hu29 := Try.underlying29
 have hu56 := Try.underlying56
 have HR0_1 := Aside0.mk hr0_1
 have HC0_1 := Aside0.mk hc0_1
 clear hr0_1 hc0_1
 have HB := Aside0.mk (Below.refl w.heap.size w)
 have H : ((impl_IsGraph.f a0_0 l0_1).bind fun t234 => (if t234 = true then ((impl_netOf.f a0_0 l0_1).bind fun t235 => (impl_LeastCliqueCover.l0 k (wrap64 (a0_0 + 1)) 0 t235)) else (some (([] : List (List Int)), false)))) = some (r1, r2) := h
 clear h
 replace H := Option.bind_eq_some_iff.mp H
 obtain ⟨t234, A20, H⟩ := H
 replace H : (if t234 = true then ((impl_netOf.f a0_0 l0_1).bind fun t235 => (impl_LeastCliqueCover.l0 k (wrap64 (a0_0 + 1)) 0 t235)) else (some (([] : List (List Int)), false))) = some (r1, r2) := H
 have A2 := Aside0.mk A20
 clear A20
 by_cases c3 : t234 = true
 ·subst c3
  have H1 : ((impl_netOf.f a0_0 l0_1).bind fun t235 => (impl_LeastCliqueCover.l0 k (wrap64 (a0_0 + 1)) 0 t235)) = some (r1, r2) := by rw [if_pos rfl] at H;exact H
  clear H
  have H := H1
  clear H1
  replace H := Option.bind_eq_some_iff.mp H
  obtain ⟨t235, A40, H⟩ := H
  replace H : (impl_LeastCliqueCover.l0 k (wrap64 (a0_0 + 1)) 0 t235) = some (r1, r2) := H
  have A4 := Aside0.mk A40
  clear A40
  have H' := Aside0.mk H
  clear H
  go_enter Try.func19, Try.ntmps19
  go_wp2_with (first | ((with_reducible refine gate_dst (N := 1) rfl ?_);refine box_event ?hg (N := 1) ?hd (cs := #[.int .i64 a0_0, .slice A0_1 l0_1.length c0_1]) (t := 29) ?hr ?_;(case hd => rfl);(case hg => rfl);(case hr => first | (go_simp;done) | (go_simp;rfl));intro gb233 hg w5 hbox hb;have n0_ := Aside0.mk (below_step (by exact bB) hb);have n1_ := Aside0.mk (hbox);have n2_ := Aside0.mk ((by rw [hg];exact (below_size (by exact bB)) : w.heap.size ≤ gb233));have n3_ := Aside0.mk ((by rw [hg];exact (below_size (by exact bB)) : w.heap.size ≤ gb233));clear HB;have HB := n0_;have BK233 := n1_;have GW233 := n2_;have GE233 := n3_;clear n0_ n1_ n2_ n3_;clear hb hbox hg;have hcz6_0 : w5.cell? ⟨gb233, 0, none⟩ = some (.int .i64 a0_0) := (blk_cell BK233.out 0).trans rfl;have hcz6_1 : w5.cell? ⟨gb233, 1, none⟩ = some (.slice A0_1 l0_1.length c0_1) := (blk_cell BK233.out 1).trans rfl;have hfz6_0 := blk_frozen BK233.out 0;have hfz6_1 := blk_frozen BK233.out 1) | ((with_reducible refine gate_callee (f := 38) rfl ?_);refine goesL_ (some 12) rfl rfl Try.func38 (by kernel_rfl) rfl #[.agg #[.int .i64 a0_0, .slice A0_1 l0_1.length c0_1]] rfl mM ?_;(with_reducible refine (impl_IsGraph.calls a0_0 _ _ l0_1 true _ ?side1 ?side2 A2.out).mono ?_);(case side1 => exact cP (Kd.C_below HR0_1.out HB.out));(case side2 => exact HC0_1.out);rintro e w7 ⟨rfl, hb⟩;refine ⟨_, rfl, ?_⟩;have n0_ := Aside0.mk (blk_below (g := gb233) (o := .cells #[.int .i64 a0_0, .slice A0_1 l0_1.length c0_1] 29 (0, 0)) (by exact kP BK233.out) hb);have n1_ := Aside0.mk (below_step (by exact bB) hb);clear BK233;clear HB;have BK233 := n0_;have HB := n1_;clear n0_ n1_;(try clear hb);(try clear hb2);(try clear hk);(try clear hi);have hcz8_0 : w7.cell? ⟨gb233, 0, none⟩ = some (.int .i64 a0_0) := (blk_cell BK233.out 0).trans rfl;have hcz8_1 : w7.cell? ⟨gb233, 1, none⟩ = some (.slice A0_1 l0_1.length c0_1) := (blk_cell BK233.out 1).trans rfl;have hfz8_0 := blk_frozen BK233.out 0;have hfz8_1 := blk_frozen BK233.out 1) | ((with_reducible refine gate_callee (f := 40) rfl ?_);refine goesL_ (some 15) rfl rfl Try.func40 (by kernel_rfl) rfl #[.agg #[.int .i64 a0_0, .slice A0_1 l0_1.length c0_1]] rfl mM ?_;(with_reducible refine (impl_netOf.calls a0_0 _ _ l0_1 t235 _ ?side1 ?side2 A4.out).mono ?_);(case side1 => exact cP (Kd.C_below HR0_1.out HB.out));(case side2 => exact HC0_1.out);rintro e w9 ⟨v236, rfl, ho0, hb⟩;refine ⟨_, rfl, ?_⟩;have n0_ := Aside0.mk (Kd.R_lower ho0 (below_size (by exact bB)));have n1_ := Aside0.mk (blk_below (g := gb233) (o := .cells #[.int .i64 a0_0, .slice A0_1 l0_1.length c0_1] 29 (0, 0)) (by exact kP BK233.out) hb);have n2_ := Aside0.mk (below_step (by exact bB) hb);clear BK233;clear HB;have HO237 := n0_;have BK233 := n1_;have HB := n2_;clear n0_ n1_ n2_;(try clear hb);(try clear hb2);(try clear hk);(try clear hi);(try clear ho0)) | ((with_reducible refine gate_dst (N := 4) rfl ?_);refine box_event ?hg (N := 4) ?hd (cs := #[.slice none 0 0]) (t := 56) ?hr ?_;(case hd => rfl);(case hg => rfl);(case hr => first | (go_simp;done) | (go_simp;rfl));intro gb238 hg w10 hbox hb;have n0_ := Aside0.mk (Kd.R_below (by exact rP HO237.out) hb);have n1_ := Aside0.mk (blk_below (g := gb233) (o := .cells #[.int .i64 a0_0, .slice A0_1 l0_1.length c0_1] 29 (0, 0)) (by exact kP BK233.out) hb);have n2_ := Aside0.mk (below_step (by exact bB) hb);have n3_ := Aside0.mk (hbox);have n4_ := Aside0.mk ((by rw [hg];exact (below_size (by exact bB)) : w.heap.size ≤ gb238));have n5_ := Aside0.mk ((by rw [hg];exact (below_size (by exact bB)) : w.heap.size ≤ gb238));have n6_ := Aside0.mk ((by rw [hg];exact Nat.ne_of_lt (blk_lt (g := gb233) (o := .cells #[.int .i64 a0_0, .slice A0_1 l0_1.length c0_1] 29 (0, 0)) (by exact kP BK233.out)) : gb233 ≠ gb238));have n7_ := Aside0.mk ((by rw [hg];exact Nat.ne_of_gt (blk_lt (g := gb233) (o := .cells #[.int .i64 a0_0, .slice A0_1 l0_1.length c0_1] 29 (0, 0)) (by exact kP BK233.out)) : gb238 ≠ gb233));clear HO237;clear BK233;clear HB;have HO237 := n0_;have BK233 := n1_;have HB := n2_;have BK238 := n3_;have GW238 := n4_;have GE238 := n5_;have NB233_238 := n6_;have NB238_233 := n7_;clear n0_ n1_ n2_ n3_ n4_ n5_ n6_ n7_;clear hb hbox hg;obtain ⟨Ao11, co11, eo11⟩ := Kd.R_slice HO237.out;subst eo11;have hnb12 := NB238_233.out;have hnc12 := NB233_238.out;have hcz13_0 : w10.cell? ⟨gb238, 0, none⟩ = some (.slice none 0 0) := (blk_cell BK238.out 0).trans rfl;have hfz13_0 := blk_frozen BK238.out 0;have hcz14_0 : w10.cell? ⟨gb233, 0, none⟩ = some (.int .i64 a0_0) := (blk_cell BK233.out 0).trans rfl;have hcz14_1 : w10.cell? ⟨gb233, 1, none⟩ = some (.slice A0_1 l0_1.length c0_1) := (blk_cell BK233.out 1).trans rfl;have hfz14_0 := blk_frozen BK233.out 0;have hfz14_1 := blk_frozen BK233.out 1))
  go_loopg [19] k (fun kq v19 w' => ∃ (x19_1 : Int), v19 = .int .i64 x19_1 ∧ Aside0 (impl_LeastCliqueCover.l0 kq (wrap64 (a0_0 + 1)) x19_1 t235 = some (r1, r2)) ∧ Aside0 (kq ≤ k) ∧ Aside0 (Kd.R (Kd.int .i64) 3 w' w.heap.size (fun _ => True) (.slice Ao11 t235.length co11) t235) ∧ Aside0 (w'.heap[gb233]? = some (.cells #[.int .i64 a0_0, (.slice A0_1 l0_1.length c0_1)] 29 (0, 0))) ∧ Aside0 (w'.heap[gb238]? = some (.cells #[(.slice Ao11 t235.length co11)] 56 (0, 0))) ∧ Aside0 (Below w.heap.size w w'))
  case atStart => exact ⟨(0), (by first | rfl | (simp;done) | (simp [*];done)), H', ⟨Nat.le_refl _⟩, ⟨by refine rP ?_;exact Kd.R_mono (Kd.R_far (p := ⟨gb238, 0, none⟩) (Kd.R_types HO237.out BK238.out (by decide)) (fun _ hk => hk.2) (.slice Ao11 t235.length co11)) (fun _ hk => trivial)⟩, ⟨by refine kP ?_;refine blk_far ?_ NB233_238.out _;exact kP BK233.out⟩, ⟨by refine kP ?_;refine blk_put (cs := #[.slice none 0 0]) ?_ 0 _ rfl;exact kP BK238.out⟩, ⟨by exact bB⟩⟩
  case round =>
   clear H'
   try clear c1
   try clear p2
   try clear c3
   try clear c4
   try clear p6
   try clear c12
   try clear hcz13_0
   try clear hcz14_0
   try clear hcz14_1
   try clear hcz6_0
   try clear hcz6_1
   try clear hcz8_0
   try clear hcz8_1
   try clear hfz13_0
   try clear hfz14_0
   try clear hfz14_1
   try clear hfz6_0
   try clear hfz6_1
   try clear hfz8_0
   try clear hfz8_1
   obtain ⟨x19_1, rfl, HA, HK1, HO_239000, BK233, BK238, HB⟩ := hrel
   cases gk with
   | zero => exact absurd HA.out (by simp [impl_LeastCliqueCover.l0])
   | succ k1 =>
    have H := HA.out
    clear HA
    simp only [impl_LeastCliqueCover.l0] at H
    by_cases c15 : x19_1 < (wrap64 (a0_0 + 1))
    ·rw [if_pos c15] at H
     have c15b0 : decide (x19_1 < (wrap64 (a0_0 + 1))) = true := decide_eq_true c15
     clear c15
     replace H := Option.bind_eq_some_iff.mp H
     obtain ⟨⟨t239, t242⟩, A160, H⟩ := H
     replace H : (if t242 = true then (impl_LeastCliqueCover.l1 k1 ([] : List (List Int)) t239 (t239.length : Int) 0) else (impl_LeastCliqueCover.l0 k1 (wrap64 (a0_0 + 1)) (wrap64 (x19_1 + 1)) t235)) = some (r1, r2) := H
     have A16 := Aside0.mk A160
     clear A160
     by_cases c17 : t242 = true
     ·subst c17
      have H1 : (impl_LeastCliqueCover.l1 k1 ([] : List (List Int)) t239 (t239.length : Int) 0) = some (r1, r2) := by rw [if_pos rfl] at H;exact H
      clear H
      have H := H1
      clear H1
      have H' := Aside0.mk H
      clear H
      have hnb18 := NB238_233.out
      have hnc18 := NB233_238.out
      have hcz19_0 : wr.cell? ⟨gb238, 0, none⟩ = some (.slice Ao11 t235.length co11) := (blk_cell BK238.out 0).trans rfl
      have hfz19_0 := blk_frozen BK238.out 0
      go_wp2_with (first | ((with_reducible refine gate_callee (f := 45) rfl ?_);refine goesL_ (some 25) rfl rfl Try.func45 (by kernel_rfl) rfl #[.agg #[.slice Ao11 t235.length co11], .int .i64 x19_1, .int .i64 0, .slice none 0 0] rfl mM ?_;(refine (impl_net_coverBy.calls k1 _ _ t235 x19_1 0 (fun k_ => some k_ = (.slice none 0 0 : Value).ownBlock) (.slice none 0 0) ([] : List Int) t239 true w _ ?side1 ?side2 ?side3 ?side4 A16.out).mono ?_);(case side1 => exact bB);(case side2 => exact Kd.C_kept_own (HO_239000.out) (fun k_ hk_ hs_ => (fun e_ => by simp [Value.ownBlock] at e_) hs_));(case side3 => exact (Kd.R_reads' HO_239000.out).2.1);(case side4 => exact Kd.R_nil _ _ _ _ _);rintro e w20 ⟨v240, rfl, ho0, hb, hkp⟩;refine ⟨_, rfl, ?_⟩;have n0_ := Aside0.mk (Kd.R_mono (ok' := fun k_ => some k_ ≠ (v240 : Value).ownBlock) (Kd.R_keptB (HO_239000.out) hkp (fun k_ hk_ hs_ => (fun e_ => by simp [Value.ownBlock] at e_) hs_)) (fun k_ hk_ => fun e_ => Or.elim (ho0.1 k_ e_.symm) (fun hs_ => hk_.2.1 hs_) (fun hn_ => Nat.not_le.2 hk_.2.2 hn_)));have n1_ := Aside0.mk (blk_kept (by exact kP BK233.out) hkp (fun hs_ => (fun e_ => by simp [Value.ownBlock] at e_) hs_));have n2_ := Aside0.mk (blk_kept (by exact kP BK238.out) hkp (fun hs_ => (fun e_ => by simp [Value.ownBlock] at e_) hs_));have n3_ := Aside0.mk (Kd.R_mono (ok' := fun k_ => some k_ ≠ (.slice Ao11 t235.length co11 : Value).ownBlock) ho0 (fun k_ hk_ => Or.elim hk_ (fun hs_ => absurd hs_ (by simp [Value.ownBlock])) (fun hn_ => (Kd.fresh' (Kd.R_lt (by exact rP HO_239000.out)) k_ hn_))));have n4_ := Aside0.mk (hb);clear HO_239000;clear BK233;clear BK238;clear HB;have HO_239000 := n0_;have BK233 := n1_;have BK238 := n2_;have HO241 := n3_;have HB := n4_;clear n0_ n1_ n2_ n3_ n4_;(try clear hb);(try clear hkp);(try clear ho0);obtain ⟨Ao21, co21, eo21⟩ := Kd.R_slice HO241.out;subst eo21))
      go_loopg [8, 31] k1 (fun kq v8 v31 w' => ∃ (x8_2 : List (List Int)) (x31_2 : Int), v31 = .int .i64 x31_2 ∧ Aside0 (impl_LeastCliqueCover.l1 kq x8_2 t239 (t239.length : Int) x31_2 = some (r1, r2)) ∧ Aside0 (kq ≤ k1) ∧ Aside0 (Kd.S (Kd.slice 3 (Kd.int .i64)) 25 w' w.heap.size (fun k_ => some k_ ≠ ((.slice Ao21 t239.length co21) : Value).ownBlock ∧ some k_ ≠ ((.slice Ao11 t235.length co11) : Value).ownBlock) v8 x8_2) ∧ Aside0 (Kd.R (Kd.int .i64) 3 w' w.heap.size (fun k_ => some k_ ≠ ((.slice Ao11 t235.length co11) : Value).ownBlock) (.slice Ao21 t239.length co21) t239) ∧ Aside0 (Kd.R (Kd.int .i64) 3 w' w.heap.size (fun k_ => some k_ ≠ ((.slice Ao21 t239.length co21) : Value).ownBlock) (.slice Ao11 t235.length co11) t235) ∧ Aside0 (w'.heap[gb233]? = some (.cells #[.int .i64 a0_0, (.slice A0_1 l0_1.length c0_1)] 29 (0, 0))) ∧ Aside0 (w'.heap[gb238]? = some (.cells #[(.slice Ao11 t235.length co11)] 56 (0, 0))) ∧ Aside0 (Below w.heap.size w w'))
      case atStart => exact ⟨(([] : List (List Int))), (0), (by first | rfl | (simp;done) | (simp [*];done)), H', ⟨Nat.le_refl _⟩, ⟨by first | exact Kd.S_nil _ _ _ _ _ | exact Kd.N_nil _ _ _ _ _ | exact Kd.V_nil _ _ _ _ _ | exact Kd.Q_nil _ _ _ _ _ | exact Kd.R_nil _ _ _ _ _⟩, ⟨by exact rP HO241.out⟩, ⟨by exact rP HO_239000.out⟩, ⟨by exact kP BK233.out⟩, ⟨by exact kP BK238.out⟩, ⟨by exact bB⟩⟩
      case round =>
       clear H'
       try clear c1
       try clear p2
       try clear c3
       try clear c4
       try clear p6
       try clear c12
       try clear c15
       try clear c15b0
       try clear c17
       try clear c18
       try clear c19
       try clear hcz13_0
       try clear hcz14_0
       try clear hcz14_1
       try clear hcz19_0
       try clear hcz6_0
       try clear hcz6_1
       try clear hcz8_0
       try clear hcz8_1
       try clear hfz13_0
       try clear hfz14_0
       try clear hfz14_1
       try clear hfz19_0
       try clear hfz6_0
       try clear hfz6_1
       try clear hfz8_0
       try clear hfz8_1
       try clear p2
       try clear p6
       obtain ⟨x8_2, x31_2, rfl, HA, HK2, HO_8, HO_29, HO_239000, BK233, BK238, HB⟩ := hrel
       cases gk with
       | zero => exact absurd HA.out (by simp [impl_LeastCliqueCover.l1])
       | succ k2 =>
        have H := HA.out
        clear HA
        simp only [impl_LeastCliqueCover.l1] at H
        by_cases c22 : x31_2 < (t239.length : Int)
        ·rw [if_pos c22] at H
         have c22b0 : decide (x31_2 < (t239.length : Int)) = true := decide_eq_true c22
         clear c22
         by_cases c23 : 0 ≤ x31_2
         ·rw [if_pos c23] at H
          have c23b0 : decide (0 ≤ x31_2) = true := decide_eq_true c23
          clear c23
          by_cases c24 : x31_2 < (t239.length : Int)
          ·rw [if_pos c24] at H
           have c24b0 : decide (x31_2 < (t239.length : Int)) = true := decide_eq_true c24
           clear c24
           replace H := Option.bind_eq_some_iff.mp H
           obtain ⟨t244, A250, H⟩ := H
           replace H : (if x8_2.length < 5864062014805 then (impl_LeastCliqueCover.l1 k2 (x8_2 ++ [t244]) t239 (t239.length : Int) (wrap64 (x31_2 + 1))) else (none)) = some (r1, r2) := H
           have A25 := Aside0.mk A250
           clear A250
           by_cases c26 : x8_2.length < 5864062014805
           ·rw [if_pos c26] at H
            have LMc26 := Aside0.mk c26
            clear c26
            obtain ⟨y247, hy247⟩ : ∃ y_ : List (List Int), y_ = (x8_2 ++ [t244]) := ⟨_, rfl⟩
            replace H : (impl_LeastCliqueCover.l1 k2 y247 t239 (t239.length : Int) (wrap64 (x31_2 + 1))) = some (r1, r2) := by first | (rw [hy247];with_reducible exact H) | (have H2_ := (Option.bind_some _ _).symm.trans H;rw [hy247];with_reducible exact H2_) | (have H2_ := (Option.bind_some _ _).symm.trans H;with_reducible exact H2_) | with_reducible exact H | (rw [hy247];exact H) | exact H
            have Ny247 := Aside0.mk hy247
            clear hy247
            have H' := Aside0.mk H
            clear H
            have p243 : 0 ≤ (x31_2 : Int) := oA
            have q243 : x31_2 < (t239.length : Int) := oA
            obtain ⟨ad243, e243, hx243_0⟩ := Kd.at_int (Kd.R_reads' HO_29.out).2.2 x31_2 p243 q243
            cases e243
            replace p243 := eq_true p243
            replace q243 := eq_true q243
            go_wp2_with (first | ((with_reducible refine gate_callee (f := 46) rfl ?_);refine goesL_ (some 37) rfl rfl Try.func46 (by kernel_rfl) rfl #[.int .i64 (rd t239 x31_2)] rfl mM ?_;(with_reducible refine (impl_setOf.calls k2 (rd t239 x31_2) t244 _ A25.out).mono ?_);rintro e w27 ⟨v245, rfl, ho0, hb⟩;refine ⟨_, rfl, ?_⟩;have n0_ := Aside0.mk (Kd.S_elder' (by (with_reducible repeat (first | apply Kd.S_alloc | apply Kd.S_drewN | apply Kd.S_drew));exact HO_8.out) (Kd.R_base ho0) hb);have n1_ := Aside0.mk (Kd.R_elder' (by exact rP HO_29.out) (Kd.R_base ho0) hb);have n2_ := Aside0.mk (Kd.R_elder' (by exact rP HO_239000.out) (Kd.R_base ho0) hb);have n3_ := Aside0.mk (Kd.R_lower (Kd.R_new' (Kd.R_new' ho0 (Kd.R_lt (by exact rP HO_29.out))) (Kd.R_lt (by exact rP HO_239000.out))) (below_size (by exact bB)));have n4_ := Aside0.mk (blk_below (g := gb233) (o := .cells #[.int .i64 a0_0, .slice A0_1 l0_1.length c0_1] 29 (0, 0)) (by exact kP BK233.out) hb);have n5_ := Aside0.mk (blk_below (g := gb238) (o := .cells #[.slice Ao11 t235.length co11] 56 (0, 0)) (by exact kP BK238.out) hb);have n6_ := Aside0.mk (below_step (by exact bB) hb);clear HO_8;clear HO_29;clear HO_239000;clear BK233;clear BK238;clear HB;have HO_8 := n0_;have HO_29 := n1_;have HO_239000 := n2_;have HO246 := n3_;have BK233 := n4_;have BK238 := n5_;have HB := n6_;clear n0_ n1_ n2_ n3_ n4_ n5_ n6_;(try clear hb);(try clear hb2);(try clear hk);(try clear hi);(try clear ho0);obtain ⟨Ao29, co29, eo29⟩ := Kd.R_slice HO246.out;subst eo29) | ((with_reducible refine gate_builtin (b := .append) (xs := #[.tmp 35, .tmp 38]) rfl ?_);at_builtin;refine Kd.S_append (Kd.slice 3 (Kd.int .i64)) (w0 := w) w.heap.size rfl (.tmp 35) (.tmp 38) 37 25 (.slice none 0 0) 24 rfl Try.underlying37 info25 rfl (by decide) (by omega) u8 x8_2 t244 [.slice Ao29 t244.length co29] (fun k_ => some k_ ≠ (.slice (some ad243) t239.length co21 : Value).ownBlock ∧ some k_ ≠ (.slice Ao11 t235.length co11 : Value).ownBlock) (fun k_ => some k_ = (.slice Ao29 t244.length co29 : Value).ownBlock) rfl rfl ?aP (fun k_ hk_ => ((Kd.R_mono (ok' := fun k_ => ((fun k_ => some k_ ≠ (.slice (some ad243) t239.length co21 : Value).ownBlock ∧ some k_ ≠ (.slice Ao11 t235.length co11 : Value).ownBlock)) k_ ∧ some k_ ≠ (u8 : Value).ownBlock) (Kd.R_apart' (HO246.out) (Kd.S_typed HO_8.out) (by decide)) (fun k_ hk => ⟨⟨hk.1.1.2, hk.1.2⟩, hk.2⟩))).1 k_ hk_.symm) ?aF ?aO ?aB ?aS ?aL ?_;(case aP => exact Kd.M_row (Kd.R_mono (Kd.R_tight rfl (Kd.R_mono (ok' := fun k_ => ((fun k_ => some k_ ≠ (.slice (some ad243) t239.length co21 : Value).ownBlock ∧ some k_ ≠ (.slice Ao11 t235.length co11 : Value).ownBlock)) k_ ∧ some k_ ≠ (u8 : Value).ownBlock) (Kd.R_apart' (HO246.out) (Kd.S_typed HO_8.out) (by decide)) (fun k_ hk => ⟨⟨hk.1.1.2, hk.1.2⟩, hk.2⟩))) (fun _ h_ => h_)));(case aB => exact (by exact bB));(case aF => exact (fun k_ hk => ⟨Kd.fresh' (Kd.R_lt (by exact rP HO_29.out)) k_ hk, Kd.fresh' (Kd.R_lt (by exact rP HO_239000.out)) k_ hk⟩));(case aO => exact (by (with_reducible repeat (first | apply Kd.S_alloc | apply Kd.S_drewN | apply Kd.S_drew));exact Kd.S_mono HO_8.out (fun k_ hk => ⟨⟨hk.1.1, hk.1.2⟩, fun e_ => hk.2 e_⟩)));(case aS => exact (below_size (by exact bB)));(case aL => have := LMc26.out;omega);intro v248 w28 ho hb hg hat;rw [← Ny247.out] at ho;have n0_ := Aside0.mk (Kd.R_over' (by exact rP HO_29.out) (Kd.S_typed (by (with_reducible repeat (first | apply Kd.S_alloc | apply Kd.S_drewN | apply Kd.S_drew));exact HO_8.out)) (by decide) hg);have n1_ := Aside0.mk (Kd.R_over' (by exact rP HO_239000.out) (Kd.S_typed (by (with_reducible repeat (first | apply Kd.S_alloc | apply Kd.S_drewN | apply Kd.S_drew));exact HO_8.out)) (by decide) hg);have n2_ := Aside0.mk (blk_grown (g := gb233) (o := .cells #[.int .i64 a0_0, .slice A0_1 l0_1.length c0_1] 29 (0, 0)) (by exact kP BK233.out) hg (Kd.S_ne HO_8.out BK233.out (by decide)));have n3_ := Aside0.mk (blk_grown (g := gb238) (o := .cells #[.slice Ao11 t235.length co11] 56 (0, 0)) (by exact kP BK238.out) hg (Kd.S_ne HO_8.out BK238.out (by decide)));have n4_ := Aside0.mk (hb);have n5_ := Aside0.mk (ho);clear HO_29;clear HO_239000;clear BK233;clear BK238;clear HB;clear HO_8;clear HO246;have HO_29 := n0_;have HO_239000 := n1_;have BK233 := n2_;have BK238 := n3_;have HB := n4_;have HO249 := n5_;clear n0_ n1_ n2_ n3_ n4_ n5_;clear ho hb hg hat))
            go_roundg k2
            case measure => have := HK1.out;have := HK2.out;omega
            case rel => exact ⟨(y247), (wrap64 (x31_2 + 1)), (by first | rfl | (simp;done) | (simp [*];done)), H', ⟨by have := HK1.out;have := HK2.out;omega⟩, ⟨by (with_reducible repeat (first | apply Kd.S_alloc | apply Kd.S_drewN | apply Kd.S_drew));exact HO249.out⟩, ⟨by refine rP ?_;exact Kd.R_mono HO_29.out (fun _ hk => hk.1)⟩, ⟨by refine rP ?_;exact Kd.R_mono HO_239000.out (fun _ hk => hk.1)⟩, ⟨by exact kP BK233.out⟩, ⟨by exact kP BK238.out⟩, ⟨by exact bB⟩⟩
           ·rw [if_neg c26] at H
            exact absurd H (by simp)
          ·rw [if_neg c24] at H
           exact absurd H (by simp)
         ·rw [if_neg c23] at H
          exact absurd H (by simp)
        ·rw [if_neg c22] at H
         have c22b0 : decide (x31_2 < (t239.length : Int)) = false := decide_eq_false c22
         clear c22
         simp only [Option.some.injEq, Prod.mk.injEq] at H
         obtain ⟨rfl, rfl⟩ := H
         go_wp2
         go_ret2
         exact ⟨_, by first | rfl | (simp [errW_none, errW_some] <;> rfl) | (simp [*, errW_none, errW_some] <;> rfl), by (with_reducible repeat (first | apply Kd.S_alloc | apply Kd.S_drewN | apply Kd.S_drew));exact Kd.S_mono HO_8.out (fun _ hk => trivial), by exact bB⟩
     ·replace c17 := Bool.eq_false_iff.mpr c17
      subst c17
      have H1 : (impl_LeastCliqueCover.l0 k1 (wrap64 (a0_0 + 1)) (wrap64 (x19_1 + 1)) t235) = some (r1, r2) := by rw [if_neg (show ¬ (false = true) by decide)] at H;exact H
      clear H
      have H := H1
      clear H1
      have H' := Aside0.mk H
      clear H
      have hnb30 := NB238_233.out
      have hnc30 := NB233_238.out
      have hcz31_0 : wr.cell? ⟨gb238, 0, none⟩ = some (.slice Ao11 t235.length co11) := (blk_cell BK238.out 0).trans rfl
      have hfz31_0 := blk_frozen BK238.out 0
      go_wp2_with (first | ((with_reducible refine gate_callee (f := 45) rfl ?_);refine goesL_ (some 25) rfl rfl Try.func45 (by kernel_rfl) rfl #[.agg #[.slice Ao11 t235.length co11], .int .i64 x19_1, .int .i64 0, .slice none 0 0] rfl mM ?_;(refine (impl_net_coverBy.calls k1 _ _ t235 x19_1 0 (fun k_ => some k_ = (.slice none 0 0 : Value).ownBlock) (.slice none 0 0) ([] : List Int) t239 false w _ ?side1 ?side2 ?side3 ?side4 A16.out).mono ?_);(case side1 => exact bB);(case side2 => exact Kd.C_kept_own (HO_239000.out) (fun k_ hk_ hs_ => (fun e_ => by simp [Value.ownBlock] at e_) hs_));(case side3 => exact (Kd.R_reads' HO_239000.out).2.1);(case side4 => exact Kd.R_nil _ _ _ _ _);rintro e w32 ⟨v240, rfl, ho0, hb, hkp⟩;refine ⟨_, rfl, ?_⟩;have n0_ := Aside0.mk (Kd.R_mono (ok' := fun k_ => some k_ ≠ (v240 : Value).ownBlock) (Kd.R_keptB (HO_239000.out) hkp (fun k_ hk_ hs_ => (fun e_ => by simp [Value.ownBlock] at e_) hs_)) (fun k_ hk_ => fun e_ => Or.elim (ho0.1 k_ e_.symm) (fun hs_ => hk_.2.1 hs_) (fun hn_ => Nat.not_le.2 hk_.2.2 hn_)));have n1_ := Aside0.mk (blk_kept (by exact kP BK233.out) hkp (fun hs_ => (fun e_ => by simp [Value.ownBlock] at e_) hs_));have n2_ := Aside0.mk (blk_kept (by exact kP BK238.out) hkp (fun hs_ => (fun e_ => by simp [Value.ownBlock] at e_) hs_));have n3_ := Aside0.mk (Kd.R_mono (ok' := fun k_ => some k_ ≠ (.slice Ao11 t235.length co11 : Value).ownBlock) ho0 (fun k_ hk_ => Or.elim hk_ (fun hs_ => absurd hs_ (by simp [Value.ownBlock])) (fun hn_ => (Kd.fresh' (Kd.R_lt (by exact rP HO_239000.out)) k_ hn_))));have n4_ := Aside0.mk (hb);clear HO_239000;clear BK233;clear BK238;clear HB;have HO_239000 := n0_;have BK233 := n1_;have BK238 := n2_;have HO241 := n3_;have HB := n4_;clear n0_ n1_ n2_ n3_ n4_;(try clear hb);(try clear hkp);(try clear ho0)))
      go_roundg k1
      case measure => have := HK1.out;omega
      case rel => exact ⟨(wrap64 (x19_1 + 1)), (by first | rfl | (simp;done) | (simp [*];done)), H', ⟨by have := HK1.out;omega⟩, ⟨by refine rP ?_;exact Kd.R_mono HO_239000.out (fun _ hk => trivial)⟩, ⟨by exact kP BK233.out⟩, ⟨by exact kP BK238.out⟩, ⟨by exact bB⟩⟩
    ·rw [if_neg c15] at H
     have c15b0 : decide (x19_1 < (wrap64 (a0_0 + 1))) = false := decide_eq_false c15
     clear c15
     simp only [Option.some.injEq, Prod.mk.injEq] at H
     obtain ⟨rfl, rfl⟩ := H
     go_wp2
     go_ret2
     exact ⟨_, by first | rfl | (simp [errW_none, errW_some] <;> rfl) | (simp [*, errW_none, errW_some] <;> rfl), by first | exact Kd.S_nil _ _ _ _ _ | exact Kd.N_nil _ _ _ _ _ | exact Kd.V_nil _ _ _ _ _ | exact Kd.Q_nil _ _ _ _ _ | exact Kd.R_nil _ _ _ _ _, by exact bB⟩
 ·replace c3 := Bool.eq_false_iff.mpr c3
  subst c3
  have H1 : (some (([] : List (List Int)), false)) = some (r1, r2) := by rw [if_neg (show ¬ (false = true) by decide)] at H;exact H
  clear H
  have H := H1
  clear H1
  simp only [Option.some.injEq, Prod.mk.injEq] at H
  obtain ⟨rfl, rfl⟩ := H
  go_enter Try.func19, Try.ntmps19
  go_wp2_with (first | ((with_reducible refine gate_dst (N := 1) rfl ?_);refine box_event ?hg (N := 1) ?hd (cs := #[.int .i64 a0_0, .slice A0_1 l0_1.length c0_1]) (t := 29) ?hr ?_;(case hd => rfl);(case hg => rfl);(case hr => first | (go_simp;done) | (go_simp;rfl));intro gb233 hg w33 hbox hb;have n0_ := Aside0.mk (below_step (by exact bB) hb);have n1_ := Aside0.mk (hbox);have n2_ := Aside0.mk ((by rw [hg];exact (below_size (by exact bB)) : w.heap.size ≤ gb233));have n3_ := Aside0.mk ((by rw [hg];exact (below_size (by exact bB)) : w.heap.size ≤ gb233));clear HB;have HB := n0_;have BK233 := n1_;have GW233 := n2_;have GE233 := n3_;clear n0_ n1_ n2_ n3_;clear hb hbox hg;have hcz34_0 : w33.cell? ⟨gb233, 0, none⟩ = some (.int .i64 a0_0) := (blk_cell BK233.out 0).trans rfl;have hcz34_1 : w33.cell? ⟨gb233, 1, none⟩ = some (.slice A0_1 l0_1.length c0_1) := (blk_cell BK233.out 1).trans rfl;have hfz34_0 := blk_frozen BK233.out 0;have hfz34_1 := blk_frozen BK233.out 1) | ((with_reducible refine gate_callee (f := 38) rfl ?_);refine goesL_ (some 12) rfl rfl Try.func38 (by kernel_rfl) rfl #[.agg #[.int .i64 a0_0, .slice A0_1 l0_1.length c0_1]] rfl mM ?_;(with_reducible refine (impl_IsGraph.calls a0_0 _ _ l0_1 false _ ?side1 ?side2 A2.out).mono ?_);(case side1 => exact cP (Kd.C_below HR0_1.out HB.out));(case side2 => exact HC0_1.out);rintro e w35 ⟨rfl, hb⟩;refine ⟨_, rfl, ?_⟩;have n0_ := Aside0.mk (blk_below (g := gb233) (o := .cells #[.int .i64 a0_0, .slice A0_1 l0_1.length c0_1] 29 (0, 0)) (by exact kP BK233.out) hb);have n1_ := Aside0.mk (below_step (by exact bB) hb);clear BK233;clear HB;have BK233 := n0_;have HB := n1_;clear n0_ n1_;(try clear hb);(try clear hb2);(try clear hk);(try clear hi)))
  go_ret2
  exact ⟨_, by first | rfl | (simp [errW_none, errW_some] <;> rfl) | (simp [*, errW_none, errW_some] <;> rfl), by first | exact Kd.S_nil _ _ _ _ _ | exact Kd.N_nil _ _ _ _ _ | exact Kd.V_nil _ _ _ _ _ | exact Kd.Q_nil _ _ _ _ _ | exact Kd.R_nil _ _ _ _ _, by exact bB⟩


/-! ### laws_eqIntS: function 15 -/
def laws_eqIntS.l0 : Nat → List Int → List Int → Int → Option (Bool)
 | 0, _, _, _ => none
 | k + 1, x0, x1, x5 => if x5 < (x0.length : Int) then (if 0 ≤ x5 then (if x5 < (x1.length : Int) then (if (rd x0 x5) = (rd x1 x5) then (laws_eqIntS.l0 k x0 x1 (wrap64 (x5 + 1))) else (some false)) else (none)) else (none)) else (some true)
def laws_eqIntS.f (k : Nat) (l0 : List Int) (l1 : List Int) : Option (Bool) := if (l0.length : Int) = (l1.length : Int) then (laws_eqIntS.l0 k l0 l1 0) else (some false)
theorem laws_eqIntS.mono_l : ∀ k, (∀ y0 y1 y2, LeO (laws_eqIntS.l0 k y0 y1 y2) (laws_eqIntS.l0 (k + 1) y0 y1 y2))
 | 0 => fun _ _ _ r h => by simp [laws_eqIntS.l0] at h
 | k + 1 => by
  have ih0 := laws_eqIntS.mono_l k
  ·intro y0 y1 y2
   unfold laws_eqIntS.l0
   repeat' first
   | (with_reducible exact ih0 _ _ _)
   | (with_reducible exact LeO.refl _)
   | (with_reducible exact LeO.none _)
   | (with_reducible refine LeO.ite ?_ ?_)
   | (with_reducible refine LeO.bind ?_ (fun _ => ?_))
   | exact ih0 _ _ _
   | exact LeO.none _
   | refine LeO.ite ?_ ?_
   | refine LeO.bind ?_ (fun _ => ?_)
theorem laws_eqIntS.mono : ∀ a0 a1 k, LeO (laws_eqIntS.f k a0 a1) (laws_eqIntS.f (k + 1) a0 a1) := by
 intro a0 a1 k
 have ih0 := laws_eqIntS.mono_l k
 unfold laws_eqIntS.f
 repeat' first
   | (with_reducible exact ih0 _ _ _)
   | (with_reducible exact LeO.refl _)
   | (with_reducible exact LeO.none _)
   | (with_reducible refine LeO.ite ?_ ?_)
   | (with_reducible refine LeO.bind ?_ (fun _ => ?_))
   | exact ih0 _ _ _
   | exact LeO.none _
   | refine LeO.ite ?_ ?_
   | refine LeO.bind ?_ (fun _ => ?_)
set_option maxHeartbeats 8000000 in
set_option maxRecDepth 100000 in
theorem laws_eqIntS.calls (k : Nat) (A0 : Option Addr) (c0 : Nat) (l0 : List Int) (A1 : Option Addr) (c1 : Nat) (l1 : List Int) (r : Bool) (w : World) (hr0 : Kd.C (Kd.int .i64) w A0 l0.length l0) (hc0 : l0.length ≤ c0) (hr1 : Kd.C (Kd.int .i64) w A1 l1.length l1) (hc1 : l1.length ≤ c1) (h : laws_eqIntS.f k l0 l1 = some r) :
  Calls Try.prog 15 #[.slice A0 l0.length c0, .slice A1 l1.length c1] w fun e w' => e = .returned (.bool r) ∧ Drawn0 w w' := by
 have HR0 := Aside0.mk hr0
 have HC0 := Aside0.mk hc0
 clear hr0 hc0
 have HR1 := Aside0.mk hr1
 have HC1 := Aside0.mk hc1
 clear hr1 hc1
 have H : (if (l0.length : Int) = (l1.length : Int) then (laws_eqIntS.l0 k l0 l1 0) else (some false)) = some r := h
 clear h
 by_cases c3 : (l0.length : Int) = (l1.length : Int)
 ·rw [if_pos c3] at H
  have c3b0 : ((l0.length : Int) == (l1.length : Int)) = true := beq_iff_eq.mpr c3
  have c3b1 : ((l0.length : Int) != (l1.length : Int)) = false := bne_eq_false_iff_eq.mpr c3
  have c3b2 : (l0.length == l1.length) = true := by first | simpa using c3 | (simp at c3 ⊢;omega)
  clear c3
  have H' := Aside0.mk H
  clear H
  go_enter Try.func15, Try.ntmps15
  go_wp2
  repeat (go_quiet (fail);try go_wp2)
  go_loopg [5] k (fun kq v5 w' => ∃ (x5_1 : Int), v5 = .int .i64 x5_1 ∧ Aside0 (laws_eqIntS.l0 kq l0 l1 x5_1 = some r) ∧ Aside0 (kq ≤ k) ∧ Drawn0 w w')
  case atStart => exact ⟨(0), (by first | rfl | (simp;done) | (simp [*];done)), H', ⟨Nat.le_refl _⟩, by repeat (first | exact Drawn0.refl _ | apply Drawn0.step)⟩
  case round =>
   clear H'
   try clear c1
   try clear p2
   try clear c3
   try clear c3b0
   try clear c3b1
   try clear c3b2
   obtain ⟨x5_1, rfl, HA, HK1, ⟨m1, rfl⟩⟩ := hrel
   cases gk with
   | zero => exact absurd HA.out (by simp [laws_eqIntS.l0])
   | succ k1 =>
    have H := HA.out
    clear HA
    simp only [laws_eqIntS.l0] at H
    by_cases c4 : x5_1 < (l0.length : Int)
    ·rw [if_pos c4] at H
     have c4b0 : decide (x5_1 < (l0.length : Int)) = true := decide_eq_true c4
     clear c4
     by_cases c5 : 0 ≤ x5_1
     ·rw [if_pos c5] at H
      have c5b0 : decide (0 ≤ x5_1) = true := decide_eq_true c5
      clear c5
      by_cases c6 : x5_1 < (l1.length : Int)
      ·rw [if_pos c6] at H
       have c6b0 : decide (x5_1 < (l1.length : Int)) = true := decide_eq_true c6
       clear c6
       by_cases c7 : (rd l0 x5_1) = (rd l1 x5_1)
       ·rw [if_pos c7] at H
        have c7b0 : ((rd l0 x5_1) == (rd l1 x5_1)) = true := beq_iff_eq.mpr c7
        have c7b1 : ((rd l0 x5_1) != (rd l1 x5_1)) = false := bne_eq_false_iff_eq.mpr c7
        clear c7
        have H' := Aside0.mk H
        clear H
        have p250 : 0 ≤ (x5_1 : Int) := oA
        have q250 : x5_1 < (l0.length : Int) := oA
        obtain ⟨ad250, e250, hx250_0⟩ := Kd.at_int HR0.out x5_1 p250 q250
        cases e250
        replace p250 := eq_true p250
        replace q250 := eq_true q250
        have p251 : 0 ≤ (x5_1 : Int) := oA
        have q251 : x5_1 < (l1.length : Int) := oA
        obtain ⟨ad251, e251, hx251_0⟩ := Kd.at_int HR1.out x5_1 p251 q251
        cases e251
        replace p251 := eq_true p251
        replace q251 := eq_true q251
        go_wp2
        repeat (go_quiet (fail);try go_wp2)
        go_roundg k1
        case measure => have := HK1.out;omega
        case rel => exact ⟨(wrap64 (x5_1 + 1)), (by first | rfl | (simp;done) | (simp [*];done)), H', ⟨by have := HK1.out;omega⟩, by repeat (first | exact Drawn0.refl _ | apply Drawn0.step)⟩
       ·rw [if_neg c7] at H
        have c7b0 : ((rd l0 x5_1) == (rd l1 x5_1)) = false := beq_eq_false_iff_ne.mpr c7
        have c7b1 : ((rd l0 x5_1) != (rd l1 x5_1)) = true := bne_iff_ne.mpr c7
        obtain rfl := Option.some.inj H
        have p250 : 0 ≤ (x5_1 : Int) := oA
        have q250 : x5_1 < (l0.length : Int) := oA
        obtain ⟨ad250, e250, hx250_0⟩ := Kd.at_int HR0.out x5_1 p250 q250
        cases e250
        replace p250 := eq_true p250
        replace q250 := eq_true q250
        have p251 : 0 ≤ (x5_1 : Int) := oA
        have q251 : x5_1 < (l1.length : Int) := oA
        obtain ⟨ad251, e251, hx251_0⟩ := Kd.at_int HR1.out x5_1 p251 q251
        cases e251
        replace p251 := eq_true p251
        replace q251 := eq_true q251
        go_wp2
        repeat (go_quiet (fail);try go_wp2)
        go_ret
        exact ⟨by first | rfl | (simp;done) | (simp [*];done), by repeat (first | exact Drawn0.refl _ | apply Drawn0.step)⟩
      ·rw [if_neg c6] at H
       exact absurd H (by simp)
     ·rw [if_neg c5] at H
      exact absurd H (by simp)
    ·rw [if_neg c4] at H
     have c4b0 : decide (x5_1 < (l0.length : Int)) = false := decide_eq_false c4
     clear c4
     obtain rfl := Option.some.inj H
     go_wp2
     repeat (go_quiet (fail);try go_wp2)
     go_ret
     exact ⟨by first | rfl | (simp;done) | (simp [*];done), by repeat (first | exact Drawn0.refl _ | apply Drawn0.step)⟩
 ·rw [if_neg c3] at H
  have c3b0 : ((l0.length : Int) == (l1.length : Int)) = false := beq_eq_false_iff_ne.mpr c3
  have c3b1 : ((l0.length : Int) != (l1.length : Int)) = true := bne_iff_ne.mpr c3
  have c3b2 : (l0.length == l1.length) = false := by first | simpa using c3 | (simp at c3 ⊢;omega)
  obtain rfl := Option.some.inj H
  go_enter Try.func15, Try.ntmps15
  go_wp2
  repeat (go_quiet (fail);try go_wp2)
  go_ret
  exact ⟨by first | rfl | (simp;done) | (simp [*];done), by repeat (first | exact Drawn0.refl _ | apply Drawn0.step)⟩


end Go.Proofs.Ytaddgielnfhhpaa.QLeastCliqueCover
