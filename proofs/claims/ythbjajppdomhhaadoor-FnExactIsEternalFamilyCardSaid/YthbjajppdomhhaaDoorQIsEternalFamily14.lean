import Derived.Test.YthbjajppdomhhaaDoorQIsEternalFamily0
import Derived.Test.YthbjajppdomhhaaDoorQIsEternalFamily9
import Derived.Test.YthbjajppdomhhaaDoorQIsEternalFamily10
import Derived.Test.YthbjajppdomhhaaDoorQIsEternalFamily11
import Derived.Test.YthbjajppdomhhaaDoorQIsEternalFamily12
import Derived.Test.YthbjajppdomhhaaDoorQIsEternalFamily13
namespace Go.Proofs.YthbjajppdomhhaaDoor.QIsEternalFamily
open Go.RowKit Go.Proofs.YthbjajppdomhhaaDoorW.PrintWords Go.Proofs.YthbjajppdomhhaaDoorW.PrintLast Go.Proofs.YthbjajppdomhhaaDoorW.PrintMore
attribute [local go_sem] max2_int min2_int max_two min_two max_three min_three max_four min_four   -- for this text's walks alone
set_option linter.unusedVariables false
set_option linter.unusedSimpArgs false
/-! ### impl_isEternalFamily: function 57 -/
mutual
def impl_isEternalFamily.j0 : Nat → Bool → Int → List (S92) → List (List Int) → Bool → Option (Bool)
 | 0, _, _, _, _, _ => none
 | k + 1, x20, x514000, x514001, x515000, x516000 => if x20 = true then (some false) else ((impl_netOf.f x514000 x514001).bind fun t517 => (impl_isEternalFamily.l0 k x515000 (x515000.length : Int) 0 x515000 x516000 t517))
def impl_isEternalFamily.l0 : Nat → List (List Int) → Int → Int → List (List Int) → Bool → List Int → Option (Bool)
 | 0, _, _, _, _, _, _ => none
 | k + 1, x23, x24, x25, x515000, x516000, x521000 => if x25 < x24 then (if 0 ≤ x25 then (if x25 < (x23.length : Int) then ((impl_net_all.f x521000).bind fun t523 => ((impl_maskOf.f k (rd_L2 x23 x25)).bind fun t524 => ((impl_setOf.f k (Go.bits .andNot .i64 t523 t524)).bind fun t525 => (impl_isEternalFamily.l1 k x23 x24 x25 t525 (t525.length : Int) 0 x515000 x516000 x521000 (rd_L2 x23 x25))))) else (none)) else (none)) else (some true)
def impl_isEternalFamily.l1 : Nat → List (List Int) → Int → Int → List Int → Int → Int → List (List Int) → Bool → List Int → List Int → Option (Bool)
 | 0, _, _, _, _, _, _, _, _, _, _ => none
 | k + 1, x23, x24, x25, x34, x35, x36, x515000, x516000, x521000, x523000 => if x36 < x35 then (if 0 ≤ x36 then (if x36 < (x34.length : Int) then ((impl_valAns.f k x521000 x515000 x523000 (rd x34 x36) x516000).bind fun t530 => (if t530 = true then (impl_isEternalFamily.l1 k x23 x24 x25 x34 x35 (wrap64 (x36 + 1)) x515000 x516000 x521000 x523000) else (some false))) else (none)) else (none)) else (impl_isEternalFamily.l0 k x23 x24 (wrap64 (x25 + 1)) x515000 x516000 x521000)
end
def impl_isEternalFamily.f (k : Nat) (a0_0 : Int) (l0_1 : List (S92)) (l1 : List (List Int)) (a2 : Bool) : Option (Bool) := if (l1.length : Int) = 0 then (impl_isEternalFamily.j0 k true a0_0 l0_1 l1 a2) else ((impl_valBad.f k a0_0 l0_1 l1).bind fun t516 => (impl_isEternalFamily.j0 k t516 a0_0 l0_1 l1 a2))
theorem impl_isEternalFamily.mono_l : ∀ k, (∀ y0 y1 y2 y3 y4, LeO (impl_isEternalFamily.j0 k y0 y1 y2 y3 y4) (impl_isEternalFamily.j0 (k + 1) y0 y1 y2 y3 y4)) ∧ (∀ y0 y1 y2 y3 y4 y5, LeO (impl_isEternalFamily.l0 k y0 y1 y2 y3 y4 y5) (impl_isEternalFamily.l0 (k + 1) y0 y1 y2 y3 y4 y5)) ∧ (∀ y0 y1 y2 y3 y4 y5 y6 y7 y8 y9, LeO (impl_isEternalFamily.l1 k y0 y1 y2 y3 y4 y5 y6 y7 y8 y9) (impl_isEternalFamily.l1 (k + 1) y0 y1 y2 y3 y4 y5 y6 y7 y8 y9))
 | 0 => ⟨fun _ _ _ _ _ r h => by simp [impl_isEternalFamily.j0] at h, fun _ _ _ _ _ _ r h => by simp [impl_isEternalFamily.l0] at h, fun _ _ _ _ _ _ _ _ _ _ r h => by simp [impl_isEternalFamily.l1] at h⟩
 | k + 1 => by
  obtain ⟨ih0, ih1, ih2⟩ := impl_isEternalFamily.mono_l k
  refine ⟨?_, ?_, ?_⟩
  ·intro y0 y1 y2 y3 y4
   unfold impl_isEternalFamily.j0
   repeat' first
   | (with_reducible exact ih0 _ _ _ _ _)
   | (with_reducible exact ih1 _ _ _ _ _ _)
   | (with_reducible exact ih2 _ _ _ _ _ _ _ _ _ _)
   | (with_reducible exact impl_maskOf.mono _ _)
   | (with_reducible exact impl_setOf.mono _ _)
   | (with_reducible exact impl_valAns.mono _ _ _ _ _ _)
   | (with_reducible exact impl_valBad.mono _ _ _ _)
   | (with_reducible exact LeO.refl _)
   | (with_reducible exact LeO.none _)
   | (with_reducible refine LeO.ite ?_ ?_)
   | (with_reducible refine LeO.bind ?_ (fun _ => ?_))
   | exact ih0 _ _ _ _ _
   | exact ih1 _ _ _ _ _ _
   | exact ih2 _ _ _ _ _ _ _ _ _ _
   | exact impl_maskOf.mono _ _
   | exact impl_setOf.mono _ _
   | exact impl_valAns.mono _ _ _ _ _ _
   | exact impl_valBad.mono _ _ _ _
   | exact LeO.none _
   | refine LeO.ite ?_ ?_
   | refine LeO.bind ?_ (fun _ => ?_)
  ·intro y0 y1 y2 y3 y4 y5
   unfold impl_isEternalFamily.l0
   repeat' first
   | (with_reducible exact ih0 _ _ _ _ _)
   | (with_reducible exact ih1 _ _ _ _ _ _)
   | (with_reducible exact ih2 _ _ _ _ _ _ _ _ _ _)
   | (with_reducible exact impl_maskOf.mono _ _)
   | (with_reducible exact impl_setOf.mono _ _)
   | (with_reducible exact impl_valAns.mono _ _ _ _ _ _)
   | (with_reducible exact impl_valBad.mono _ _ _ _)
   | (with_reducible exact LeO.refl _)
   | (with_reducible exact LeO.none _)
   | (with_reducible refine LeO.ite ?_ ?_)
   | (with_reducible refine LeO.bind ?_ (fun _ => ?_))
   | exact ih0 _ _ _ _ _
   | exact ih1 _ _ _ _ _ _
   | exact ih2 _ _ _ _ _ _ _ _ _ _
   | exact impl_maskOf.mono _ _
   | exact impl_setOf.mono _ _
   | exact impl_valAns.mono _ _ _ _ _ _
   | exact impl_valBad.mono _ _ _ _
   | exact LeO.none _
   | refine LeO.ite ?_ ?_
   | refine LeO.bind ?_ (fun _ => ?_)
  ·intro y0 y1 y2 y3 y4 y5 y6 y7 y8 y9
   unfold impl_isEternalFamily.l1
   repeat' first
   | (with_reducible exact ih0 _ _ _ _ _)
   | (with_reducible exact ih1 _ _ _ _ _ _)
   | (with_reducible exact ih2 _ _ _ _ _ _ _ _ _ _)
   | (with_reducible exact impl_maskOf.mono _ _)
   | (with_reducible exact impl_setOf.mono _ _)
   | (with_reducible exact impl_valAns.mono _ _ _ _ _ _)
   | (with_reducible exact impl_valBad.mono _ _ _ _)
   | (with_reducible exact LeO.refl _)
   | (with_reducible exact LeO.none _)
   | (with_reducible refine LeO.ite ?_ ?_)
   | (with_reducible refine LeO.bind ?_ (fun _ => ?_))
   | exact ih0 _ _ _ _ _
   | exact ih1 _ _ _ _ _ _
   | exact ih2 _ _ _ _ _ _ _ _ _ _
   | exact impl_maskOf.mono _ _
   | exact impl_setOf.mono _ _
   | exact impl_valAns.mono _ _ _ _ _ _
   | exact impl_valBad.mono _ _ _ _
   | exact LeO.none _
   | refine LeO.ite ?_ ?_
   | refine LeO.bind ?_ (fun _ => ?_)
theorem impl_isEternalFamily.mono : ∀ a0 a1 a2 a3 k, LeO (impl_isEternalFamily.f k a0 a1 a2 a3) (impl_isEternalFamily.f (k + 1) a0 a1 a2 a3) := by
 intro a0 a1 a2 a3 k
 obtain ⟨ih0, ih1, ih2⟩ := impl_isEternalFamily.mono_l k
 unfold impl_isEternalFamily.f
 repeat' first
   | (with_reducible exact ih0 _ _ _ _ _)
   | (with_reducible exact ih1 _ _ _ _ _ _)
   | (with_reducible exact ih2 _ _ _ _ _ _ _ _ _ _)
   | (with_reducible exact impl_maskOf.mono _ _)
   | (with_reducible exact impl_setOf.mono _ _)
   | (with_reducible exact impl_valAns.mono _ _ _ _ _ _)
   | (with_reducible exact impl_valBad.mono _ _ _ _)
   | (with_reducible exact LeO.refl _)
   | (with_reducible exact LeO.none _)
   | (with_reducible refine LeO.ite ?_ ?_)
   | (with_reducible refine LeO.bind ?_ (fun _ => ?_))
   | exact ih0 _ _ _ _ _
   | exact ih1 _ _ _ _ _ _
   | exact ih2 _ _ _ _ _ _ _ _ _ _
   | exact impl_maskOf.mono _ _
   | exact impl_setOf.mono _ _
   | exact impl_valAns.mono _ _ _ _ _ _
   | exact impl_valBad.mono _ _ _ _
   | exact LeO.none _
   | refine LeO.ite ?_ ?_
   | refine LeO.bind ?_ (fun _ => ?_)
def impl_isEternalFamily.T7 : Bool × List (List Nat × List Nat) := (true, [([], []), ([0], [0]), ([], []), ([2, 1], [2]), ([1, 3], [1, 3]), ([4, 3], [4]), ([5], [5]), ([], [])])
def impl_isEternalFamily.B7 : List Nat := [0, 1, 0, 4, 15, 31, 63, 0]
theorem impl_isEternalFamily.tab7 : rtab .any (opsOf Tryd.f57 7) = impl_isEternalFamily.T7 := by kernel_rfl
theorem impl_isEternalFamily.bits7 : waitsOk impl_isEternalFamily.T7.2 impl_isEternalFamily.B7 = true := by kernel_rfl
set_option maxHeartbeats 8000000 in
set_option maxRecDepth 100000 in
theorem impl_isEternalFamily.calls (k : Nat) (a0_0 : Int) (A0_1 : Option Addr) (c0_1 : Nat) (l0_1 : List (S92)) (A1 : Option Addr) (c1 : Nat) (l1 : List (List Int)) (a2 : Bool) (r : Bool) (w : World) (hT : TabG w) (hr0_1 : Kd.C k92 w A0_1 l0_1.length l0_1) (hc0_1 : l0_1.length ≤ c0_1) (hr1 : Kd.C (Kd.slice 3 (Kd.int .i64)) w A1 l1.length l1) (hc1 : l1.length ≤ c1) (h : impl_isEternalFamily.f k a0_0 l0_1 l1 a2 = some r) :
  Calls Tryd.prog 57 #[.agg #[.int .i64 a0_0, .slice A0_1 l0_1.length c0_1], .slice A1 l1.length c1, .bool a2] w fun e w' => e = .returned (.bool r) ∧ Below w.heap.size w w' := by
 have hu28 := Tryd.underlying28
 have hu7 := Tryd.underlying38
 have hu18 := Tryd.underlying4
 have hu62 := Tryd.underlying62
 have hu13 := Tryd.underlying32
 have hu88 := Tryd.underlying3
 have HR0_1 := Aside0.mk hr0_1
 have HC0_1 := Aside0.mk hc0_1
 clear hr0_1 hc0_1
 have HR1 := Aside0.mk hr1
 have HC1 := Aside0.mk hc1
 clear hr1 hc1
 have HB := Aside0.mk (Below.refl w.heap.size w)
 have HT := Aside0.mk hT
 clear hT
 have H : (if (l1.length : Int) = 0 then (impl_isEternalFamily.j0 k true a0_0 l0_1 l1 a2) else ((impl_valBad.f k a0_0 l0_1 l1).bind fun t516 => (impl_isEternalFamily.j0 k t516 a0_0 l0_1 l1 a2))) = some r := h
 clear h
 have HC4 := Aside0.mk H
 clear H
 go_enter Tryd.func57, Tryd.ntmps57
 go_upto_region 1 with (first | ((with_reducible refine gate_dst (N := 3) rfl ?_);refine box_event ?hg (N := 3) ?hd (cs := #[.int .i64 a0_0, .slice A0_1 l0_1.length c0_1]) (t := 28) ?hr ?_;(case hd => rfl);(case hg => rfl);(case hr => first | (go_simp;done) | (go_simp;rfl));intro gb513 hg w5 hbox hb;have n0_ := Aside0.mk (below_step (by exact bB) hb);have n1_ := Aside0.mk (hbox);have n2_ := Aside0.mk ((by rw [hg];exact (below_size (by exact bB)) : w.heap.size ≤ gb513));have n3_ := Aside0.mk ((by rw [hg];exact (below_size (by exact bB)) : w.heap.size ≤ gb513));clear HB;have HB := n0_;have BK513 := n1_;have GW513 := n2_;have GE513 := n3_;clear n0_ n1_ n2_ n3_;clear hb hbox hg) | ((with_reducible refine gate_dst (N := 4) rfl ?_);refine box_event ?hg (N := 4) ?hd (cs := #[.slice A1 l1.length c1]) (t := 38) ?hr ?_;(case hd => rfl);(case hg => rfl);(case hr => first | (go_simp;done) | (go_simp;rfl));intro gb514 hg w6 hbox hb;have n0_ := Aside0.mk (blk_below (g := gb513) (o := .cells #[.int .i64 a0_0, .slice A0_1 l0_1.length c0_1] 28 (0, 0)) (by exact kP BK513.out) hb);have n1_ := Aside0.mk (below_step (by exact bB) hb);have n2_ := Aside0.mk (hbox);have n3_ := Aside0.mk ((by rw [hg];exact (below_size (by exact bB)) : w.heap.size ≤ gb514));have n4_ := Aside0.mk ((by rw [hg];exact (below_size (by exact bB)) : w.heap.size ≤ gb514));have n5_ := Aside0.mk ((by rw [hg];exact Nat.ne_of_lt (blk_lt (g := gb513) (o := .cells #[.int .i64 a0_0, .slice A0_1 l0_1.length c0_1] 28 (0, 0)) (by exact kP BK513.out)) : gb513 ≠ gb514));have n6_ := Aside0.mk ((by rw [hg];exact Nat.ne_of_gt (blk_lt (g := gb513) (o := .cells #[.int .i64 a0_0, .slice A0_1 l0_1.length c0_1] 28 (0, 0)) (by exact kP BK513.out)) : gb514 ≠ gb513));clear BK513;clear HB;have BK513 := n0_;have HB := n1_;have BK514 := n2_;have GW514 := n3_;have GE514 := n4_;have NB513_514 := n5_;have NB514_513 := n6_;clear n0_ n1_ n2_ n3_ n4_ n5_ n6_;clear hb hbox hg) | ((with_reducible refine gate_dst (N := 5) rfl ?_);refine box_event ?hg (N := 5) ?hd (cs := #[.bool a2]) (t := 4) ?hr ?_;(case hd => rfl);(case hg => rfl);(case hr => first | (go_simp;done) | (go_simp;rfl));intro gb515 hg w7 hbox hb;have n0_ := Aside0.mk (blk_below (g := gb513) (o := .cells #[.int .i64 a0_0, .slice A0_1 l0_1.length c0_1] 28 (0, 0)) (by exact kP BK513.out) hb);have n1_ := Aside0.mk (blk_below (g := gb514) (o := .cells #[.slice A1 l1.length c1] 38 (0, 0)) (by exact kP BK514.out) hb);have n2_ := Aside0.mk (below_step (by exact bB) hb);have n3_ := Aside0.mk (hbox);have n4_ := Aside0.mk ((by rw [hg];exact (below_size (by exact bB)) : w.heap.size ≤ gb515));have n5_ := Aside0.mk ((by rw [hg];exact (below_size (by exact bB)) : w.heap.size ≤ gb515));have n6_ := Aside0.mk ((by rw [hg];exact Nat.ne_of_lt (blk_lt (g := gb513) (o := .cells #[.int .i64 a0_0, .slice A0_1 l0_1.length c0_1] 28 (0, 0)) (by exact kP BK513.out)) : gb513 ≠ gb515));have n7_ := Aside0.mk ((by rw [hg];exact Nat.ne_of_gt (blk_lt (g := gb513) (o := .cells #[.int .i64 a0_0, .slice A0_1 l0_1.length c0_1] 28 (0, 0)) (by exact kP BK513.out)) : gb515 ≠ gb513));have n8_ := Aside0.mk ((by rw [hg];exact Nat.ne_of_lt (blk_lt (g := gb514) (o := .cells #[.slice A1 l1.length c1] 38 (0, 0)) (by exact kP BK514.out)) : gb514 ≠ gb515));have n9_ := Aside0.mk ((by rw [hg];exact Nat.ne_of_gt (blk_lt (g := gb514) (o := .cells #[.slice A1 l1.length c1] 38 (0, 0)) (by exact kP BK514.out)) : gb515 ≠ gb514));clear BK513;clear BK514;clear HB;have BK513 := n0_;have BK514 := n1_;have HB := n2_;have BK515 := n3_;have GW515 := n4_;have GE515 := n5_;have NB513_515 := n6_;have NB515_513 := n7_;have NB514_515 := n8_;have NB515_514 := n9_;clear n0_ n1_ n2_ n3_ n4_ n5_ n6_ n7_ n8_ n9_;clear hb hbox hg))
 (try simp only [Act.put, List.setIfInBounds_toArray, List.set_cons_zero, List.set_cons_succ])
 go_cut [20] (fun v20 wc => ∃ (kq : Nat) (x20_3 : Bool), v20 = .bool x20_3 ∧ Aside0 (impl_isEternalFamily.j0 kq x20_3 a0_0 l0_1 l1 a2 = some r) ∧ Aside0 (kq ≤ k) ∧ Aside0 (wc.heap[gb513]? = some (.cells #[.int .i64 a0_0, (.slice A0_1 l0_1.length c0_1)] 28 (0, 0))) ∧ Aside0 (wc.heap[gb514]? = some (.cells #[(.slice A1 l1.length c1)] 38 (0, 0))) ∧ Aside0 (wc.heap[gb515]? = some (.cells #[.bool a2] 4 (0, 0))) ∧ Aside0 (Below w.heap.size w wc))
 case first =>
  have H := HC4.out
  clear HC4
  by_cases c8 : (l1.length : Int) = 0
  ·rw [if_pos c8] at H
   have c8b0 : ((l1.length : Int) == 0) = true := beq_iff_eq.mpr c8
   have c8b1 : ((l1.length : Int) != 0) = false := bne_eq_false_iff_eq.mpr c8
   clear c8
   (first | rw [c8b0] | (simp only [i64_w, i32_w];rw [c8b0]) | skip)
   have H' := Aside0.mk H
   clear H
   have hnb9 := NB514_513.out
   have hnc9 := NB513_514.out
   have hnb10 := NB514_515.out
   have hnc10 := NB515_514.out
   have hcz11_0 : w7.cell? ⟨gb514, 0, none⟩ = some (.slice A1 l1.length c1) := (blk_cell BK514.out 0).trans rfl
   have hfz11_0 := blk_frozen BK514.out 0
   go_wp2
   go_meet
   case rel => exact ⟨_, (true), (by first | rfl | (simp;done) | (simp [*];done)), H', ⟨by first | omega | exact Nat.le_refl _⟩, ⟨by exact kP BK513.out⟩, ⟨by exact kP BK514.out⟩, ⟨by exact kP BK515.out⟩, ⟨by exact bB⟩⟩
  ·rw [if_neg c8] at H
   have c8b0 : ((l1.length : Int) == 0) = false := beq_eq_false_iff_ne.mpr c8
   have c8b1 : ((l1.length : Int) != 0) = true := bne_iff_ne.mpr c8
   have c8b2 : ¬ (l1 = []) := fun h_ => c8 (by rw [h_];rfl)
   (first | rw [c8b0] | (simp only [i64_w, i32_w];rw [c8b0]) | skip)
   replace H := Option.bind_eq_some_iff.mp H
   obtain ⟨t516, A120, H⟩ := H
   replace H : (impl_isEternalFamily.j0 k t516 a0_0 l0_1 l1 a2) = some r := H
   have A12 := Aside0.mk A120
   clear A120
   have H' := Aside0.mk H
   clear H
   have hnb13 := NB514_513.out
   have hnc13 := NB513_514.out
   have hnb14 := NB514_515.out
   have hnc14 := NB515_514.out
   have hcz15_0 : w7.cell? ⟨gb514, 0, none⟩ = some (.slice A1 l1.length c1) := (blk_cell BK514.out 0).trans rfl
   have hfz15_0 := blk_frozen BK514.out 0
   have hnb16 := NB513_515.out
   have hnc16 := NB515_513.out
   have hcz17_0 : w7.cell? ⟨gb513, 0, none⟩ = some (.int .i64 a0_0) := (blk_cell BK513.out 0).trans rfl
   have hcz17_1 : w7.cell? ⟨gb513, 1, none⟩ = some (.slice A0_1 l0_1.length c0_1) := (blk_cell BK513.out 1).trans rfl
   have hfz17_0 := blk_frozen BK513.out 0
   have hfz17_1 := blk_frozen BK513.out 1
   go_wp2_with (first | (go_at_call 97;(with_reducible refine (impl_valBad.calls gb513 gb514 k a0_0 A0_1 c0_1 l0_1 _ _ l1 t516 _ ?side1 ?side2 ?side3 ?side4 A12.out ?sX3 ?sX4).mono ?_);(case sX3 => exact kP BK513.out);(case sX4 => exact kP BK514.out);(case side1 => exact cP (Kd.C_below HR0_1.out HB.out));(case side2 => exact HC0_1.out);(case side3 => exact cP (Kd.C_below HR1.out HB.out));(case side4 => exact HC1.out);rintro e w18 ⟨rfl, hb⟩;have n0_ := Aside0.mk (blk_below (g := gb513) (o := .cells #[.int .i64 a0_0, .slice A0_1 l0_1.length c0_1] 28 (0, 0)) (by exact kP BK513.out) hb);have n1_ := Aside0.mk (blk_below (g := gb514) (o := .cells #[.slice A1 l1.length c1] 38 (0, 0)) (by exact kP BK514.out) hb);have n2_ := Aside0.mk (blk_below (g := gb515) (o := .cells #[.bool a2] 4 (0, 0)) (by exact kP BK515.out) hb);have n3_ := Aside0.mk (below_step (by exact bB) hb);clear BK513;clear BK514;clear BK515;clear HB;have BK513 := n0_;have BK514 := n1_;have BK515 := n2_;have HB := n3_;clear n0_ n1_ n2_ n3_;(try clear hb);(try clear hb2);(try clear hk);(try clear hi)))
   go_meet
   case rel => exact ⟨_, (t516), (by first | rfl | (simp;done) | (simp [*];done)), H', ⟨by first | omega | exact Nat.le_refl _⟩, ⟨by exact kP BK513.out⟩, ⟨by exact kP BK514.out⟩, ⟨by exact kP BK515.out⟩, ⟨by exact bB⟩⟩
 case rest =>
  clear HC4
  try clear c1
  try clear p2
  try clear c5
  try clear c8
  try clear c8b0
  try clear c8b1
  try clear c8b2
  try clear c9
  try clear c10
  try clear c13
  try clear c14
  try clear c16
  try clear hcz11_0
  try clear hcz15_0
  try clear hcz17_0
  try clear hcz17_1
  try clear hfz11_0
  try clear hfz15_0
  try clear hfz17_0
  try clear hfz17_1
  obtain ⟨kq, x20_3, rfl, HA, HJ3, BK513, BK514, BK515, HB⟩ := hcut
  cases kq with
  | zero => exact absurd HA.out (by simp [impl_isEternalFamily.j0])
  | succ kj3 =>
   have H := HA.out
   clear HA
   simp only [impl_isEternalFamily.j0] at H
   by_cases c19 : x20_3 = true
   ·subst c19
    have H1 : (some false) = some r := by rw [if_pos rfl] at H;exact H
    clear H
    have H := H1
    clear H1
    obtain rfl := Option.some.inj H
    go_wp2
    go_ret
    exact ⟨by first | rfl | (simp [errW_none, errW_some] <;> rfl) | (simp [*, errW_none, errW_some] <;> rfl), by exact bB⟩
   ·replace c19 := Bool.eq_false_iff.mpr c19
    subst c19
    have H1 : ((impl_netOf.f a0_0 l0_1).bind fun t517 => (impl_isEternalFamily.l0 kj3 l1 (l1.length : Int) 0 l1 a2 t517)) = some r := by rw [if_neg (show ¬ (false = true) by decide)] at H;exact H
    clear H
    have H := H1
    clear H1
    replace H := Option.bind_eq_some_iff.mp H
    obtain ⟨t517, A200, H⟩ := H
    replace H : (impl_isEternalFamily.l0 kj3 l1 (l1.length : Int) 0 l1 a2 t517) = some r := H
    have A20 := Aside0.mk A200
    clear A200
    have H' := Aside0.mk H
    clear H
    have hnb21 := NB513_514.out
    have hnc21 := NB514_513.out
    have hnb22 := NB513_515.out
    have hnc22 := NB515_513.out
    have hcz23_0 : wc.cell? ⟨gb513, 0, none⟩ = some (.int .i64 a0_0) := (blk_cell BK513.out 0).trans rfl
    have hcz23_1 : wc.cell? ⟨gb513, 1, none⟩ = some (.slice A0_1 l0_1.length c0_1) := (blk_cell BK513.out 1).trans rfl
    have hfz23_0 := blk_frozen BK513.out 0
    have hfz23_1 := blk_frozen BK513.out 1
    go_wp2_with (first | ((with_reducible refine gate_callee (f := 45) rfl ?_);refine goesL_ (some 22) rfl rfl Tryd.func45 (by kernel_rfl) rfl #[.agg #[.int .i64 a0_0, .slice A0_1 l0_1.length c0_1]] rfl mM ?_;(with_reducible refine (impl_netOf.calls a0_0 _ _ l0_1 t517 _ ?side1 ?side2 A20.out).mono ?_);(case side1 => exact cP (Kd.C_below HR0_1.out HB.out));(case side2 => exact HC0_1.out);rintro e w24 ⟨v518, rfl, ho0, hb⟩;refine ⟨_, rfl, ?_⟩;have n0_ := Aside0.mk (Kd.R_lower ho0 (below_size (by exact bB)));have n1_ := Aside0.mk (blk_below (g := gb513) (o := .cells #[.int .i64 a0_0, .slice A0_1 l0_1.length c0_1] 28 (0, 0)) (by exact kP BK513.out) hb);have n2_ := Aside0.mk (blk_below (g := gb514) (o := .cells #[.slice A1 l1.length c1] 38 (0, 0)) (by exact kP BK514.out) hb);have n3_ := Aside0.mk (blk_below (g := gb515) (o := .cells #[.bool a2] 4 (0, 0)) (by exact kP BK515.out) hb);have n4_ := Aside0.mk (below_step (by exact bB) hb);clear BK513;clear BK514;clear BK515;clear HB;have HO519 := n0_;have BK513 := n1_;have BK514 := n2_;have BK515 := n3_;have HB := n4_;clear n0_ n1_ n2_ n3_ n4_;(try clear hb);(try clear hb2);(try clear hk);(try clear hi);(try clear ho0)) | ((with_reducible refine gate_dst (N := 7) rfl ?_);refine box_event ?hg (N := 7) ?hd (cs := #[.slice none 0 0]) (t := 62) ?hr ?_;(case hd => rfl);(case hg => rfl);(case hr => first | (go_simp;done) | (go_simp;rfl));intro gb520 hg w25 hbox hb;have n0_ := Aside0.mk (Kd.R_below (by exact rP HO519.out) hb);have n1_ := Aside0.mk (blk_below (g := gb513) (o := .cells #[.int .i64 a0_0, .slice A0_1 l0_1.length c0_1] 28 (0, 0)) (by exact kP BK513.out) hb);have n2_ := Aside0.mk (blk_below (g := gb514) (o := .cells #[.slice A1 l1.length c1] 38 (0, 0)) (by exact kP BK514.out) hb);have n3_ := Aside0.mk (blk_below (g := gb515) (o := .cells #[.bool a2] 4 (0, 0)) (by exact kP BK515.out) hb);have n4_ := Aside0.mk (below_step (by exact bB) hb);have n5_ := Aside0.mk (hbox);have n6_ := Aside0.mk ((by rw [hg];exact (below_size (by exact bB)) : w.heap.size ≤ gb520));have n7_ := Aside0.mk ((by rw [hg];exact (below_size (by exact bB)) : w.heap.size ≤ gb520));have n8_ := Aside0.mk ((by rw [hg];exact Nat.ne_of_lt (blk_lt (g := gb513) (o := .cells #[.int .i64 a0_0, .slice A0_1 l0_1.length c0_1] 28 (0, 0)) (by exact kP BK513.out)) : gb513 ≠ gb520));have n9_ := Aside0.mk ((by rw [hg];exact Nat.ne_of_gt (blk_lt (g := gb513) (o := .cells #[.int .i64 a0_0, .slice A0_1 l0_1.length c0_1] 28 (0, 0)) (by exact kP BK513.out)) : gb520 ≠ gb513));have n10_ := Aside0.mk ((by rw [hg];exact Nat.ne_of_lt (blk_lt (g := gb514) (o := .cells #[.slice A1 l1.length c1] 38 (0, 0)) (by exact kP BK514.out)) : gb514 ≠ gb520));have n11_ := Aside0.mk ((by rw [hg];exact Nat.ne_of_gt (blk_lt (g := gb514) (o := .cells #[.slice A1 l1.length c1] 38 (0, 0)) (by exact kP BK514.out)) : gb520 ≠ gb514));have n12_ := Aside0.mk ((by rw [hg];exact Nat.ne_of_lt (blk_lt (g := gb515) (o := .cells #[.bool a2] 4 (0, 0)) (by exact kP BK515.out)) : gb515 ≠ gb520));have n13_ := Aside0.mk ((by rw [hg];exact Nat.ne_of_gt (blk_lt (g := gb515) (o := .cells #[.bool a2] 4 (0, 0)) (by exact kP BK515.out)) : gb520 ≠ gb515));clear HO519;clear BK513;clear BK514;clear BK515;clear HB;have HO519 := n0_;have BK513 := n1_;have BK514 := n2_;have BK515 := n3_;have HB := n4_;have BK520 := n5_;have GW520 := n6_;have GE520 := n7_;have NB513_520 := n8_;have NB520_513 := n9_;have NB514_520 := n10_;have NB520_514 := n11_;have NB515_520 := n12_;have NB520_515 := n13_;clear n0_ n1_ n2_ n3_ n4_ n5_ n6_ n7_ n8_ n9_ n10_ n11_ n12_ n13_;clear hb hbox hg;obtain ⟨Ao26, co26, eo26⟩ := Kd.R_slice HO519.out;subst eo26;have hnb27 := NB520_513.out;have hnc27 := NB513_520.out;have hnb28 := NB520_514.out;have hnc28 := NB514_520.out;have hnb29 := NB520_515.out;have hnc29 := NB515_520.out;have hcz30_0 : w25.cell? ⟨gb520, 0, none⟩ = some (.slice none 0 0) := (blk_cell BK520.out 0).trans rfl;have hfz30_0 := blk_frozen BK520.out 0;have hnb31 := NB514_515.out;have hnc31 := NB515_514.out;have hcz32_0 : w25.cell? ⟨gb514, 0, none⟩ = some (.slice A1 l1.length c1) := (blk_cell BK514.out 0).trans rfl;have hfz32_0 := blk_frozen BK514.out 0))
    go_loopg [25] kj3 (fun kq v25 w' => ∃ (x25_2 : Int), v25 = .int .i64 x25_2 ∧ Aside0 (impl_isEternalFamily.l0 kq l1 (l1.length : Int) x25_2 l1 a2 t517 = some r) ∧ Aside0 (kq ≤ kj3) ∧ Aside0 (Kd.R (Kd.int .i64) 3 w' w.heap.size (fun _ => True) (.slice Ao26 t517.length co26) t517) ∧ Aside0 (w'.heap[gb513]? = some (.cells #[.int .i64 a0_0, (.slice A0_1 l0_1.length c0_1)] 28 (0, 0))) ∧ Aside0 (w'.heap[gb514]? = some (.cells #[(.slice A1 l1.length c1)] 38 (0, 0))) ∧ Aside0 (w'.heap[gb515]? = some (.cells #[.bool a2] 4 (0, 0))) ∧ Aside0 (w'.heap[gb520]? = some (.cells #[(.slice Ao26 t517.length co26)] 62 (0, 0))) ∧ Aside0 (Below w.heap.size w w'))
    case atStart => exact ⟨(0), (by first | rfl | (simp;done) | (simp [*];done)), H', ⟨Nat.le_refl _⟩, ⟨by refine rP ?_;exact Kd.R_mono (Kd.R_far (p := ⟨gb520, 0, none⟩) (Kd.R_types HO519.out BK520.out (by decide)) (fun _ hk => hk.2) (.slice Ao26 t517.length co26)) (fun _ hk => trivial)⟩, ⟨by refine kP ?_;refine blk_far ?_ NB513_520.out _;exact kP BK513.out⟩, ⟨by refine kP ?_;refine blk_far ?_ NB514_520.out _;exact kP BK514.out⟩, ⟨by refine kP ?_;refine blk_far ?_ NB515_520.out _;exact kP BK515.out⟩, ⟨by refine kP ?_;refine blk_put (cs := #[.slice none 0 0]) ?_ 0 _ rfl;exact kP BK520.out⟩, ⟨by exact bB⟩⟩
    case round =>
     clear H'
     try clear c1
     try clear c2
     try clear p2
     try clear c3
     try clear c4
     try clear c5
     try clear c8
     try clear c8b0
     try clear c8b1
     try clear c8b2
     try clear c9
     try clear c10
     try clear c13
     try clear c14
     try clear c16
     try clear c19
     try clear c21
     try clear c22
     try clear c27
     try clear c28
     try clear c29
     try clear c31
     try clear hcz11_0
     try clear hcz15_0
     try clear hcz17_0
     try clear hcz17_1
     try clear hcz23_0
     try clear hcz23_1
     try clear hcz30_0
     try clear hcz32_0
     try clear hfz11_0
     try clear hfz15_0
     try clear hfz17_0
     try clear hfz17_1
     try clear hfz23_0
     try clear hfz23_1
     try clear hfz30_0
     try clear hfz32_0
     try clear p2
     obtain ⟨x25_2, rfl, HA, HK2, HO_521000, BK513, BK514, BK515, BK520, HB⟩ := hrel
     cases gk with
     | zero => exact absurd HA.out (by simp [impl_isEternalFamily.l0])
     | succ k2 =>
      have H := HA.out
      clear HA
      simp only [impl_isEternalFamily.l0] at H
      by_cases c33 : x25_2 < (l1.length : Int)
      ·rw [if_pos c33] at H
       have c33b0 : decide (x25_2 < (l1.length : Int)) = true := decide_eq_true c33
       clear c33
       by_cases c34 : 0 ≤ x25_2
       ·rw [if_pos c34] at H
        have c34b0 : decide (0 ≤ x25_2) = true := decide_eq_true c34
        clear c34
        by_cases c35 : x25_2 < (l1.length : Int)
        ·rw [if_pos c35] at H
         have c35b0 : decide (x25_2 < (l1.length : Int)) = true := decide_eq_true c35
         clear c35
         replace H := Option.bind_eq_some_iff.mp H
         obtain ⟨t523, A360, H⟩ := H
         replace H : ((impl_maskOf.f k2 (rd_L2 l1 x25_2)).bind fun t524 => ((impl_setOf.f k2 (Go.bits .andNot .i64 t523 t524)).bind fun t525 => (impl_isEternalFamily.l1 k2 l1 (l1.length : Int) x25_2 t525 (t525.length : Int) 0 l1 a2 t517 (rd_L2 l1 x25_2)))) = some r := H
         have A36 := Aside0.mk A360
         clear A360
         replace H := Option.bind_eq_some_iff.mp H
         obtain ⟨t524, A370, H⟩ := H
         replace H : ((impl_setOf.f k2 (Go.bits .andNot .i64 t523 t524)).bind fun t525 => (impl_isEternalFamily.l1 k2 l1 (l1.length : Int) x25_2 t525 (t525.length : Int) 0 l1 a2 t517 (rd_L2 l1 x25_2))) = some r := H
         have A37 := Aside0.mk A370
         clear A370
         replace H := Option.bind_eq_some_iff.mp H
         obtain ⟨t525, A380, H⟩ := H
         replace H : (impl_isEternalFamily.l1 k2 l1 (l1.length : Int) x25_2 t525 (t525.length : Int) 0 l1 a2 t517 (rd_L2 l1 x25_2)) = some r := H
         have A38 := Aside0.mk A380
         clear A380
         have H' := Aside0.mk H
         clear H
         have p521 : 0 ≤ (x25_2 : Int) := oA
         have q521 : x25_2 < (l1.length : Int) := oA
         obtain ⟨ad521, A521_0, c521_0, e521, hx521_0, hl521_0, hi521_0⟩ := at_L2 HR1.out x25_2 p521 q521
         cases e521
         replace hx521_0 := (HB.out.cell (World.block_lt_of_cell? w _ hx521_0)).trans hx521_0
         have HR521_0 := Aside0.mk hi521_0
         have HC521_0 := Aside0.mk hl521_0
         clear hi521_0 hl521_0
         replace p521 := eq_true p521
         replace q521 := eq_true q521
         try go_wp2_with (first | ((with_reducible refine gate_dst (N := 9) rfl ?_);refine box_event ?hg (N := 9) ?hd (cs := #[.slice none 0 0]) (t := 32) ?hr ?_;(case hd => rfl);(case hg => rfl);(case hr => first | (go_simp;done) | (go_simp;rfl));intro gb522 hg w39 hbox hb;have n0_ := Aside0.mk (Kd.R_below (by exact rP HO_521000.out) hb);have n1_ := Aside0.mk (blk_below (g := gb513) (o := .cells #[.int .i64 a0_0, .slice A0_1 l0_1.length c0_1] 28 (0, 0)) (by exact kP BK513.out) hb);have n2_ := Aside0.mk (blk_below (g := gb514) (o := .cells #[.slice (some ad521) l1.length c1] 38 (0, 0)) (by exact kP BK514.out) hb);have n3_ := Aside0.mk (blk_below (g := gb515) (o := .cells #[.bool a2] 4 (0, 0)) (by exact kP BK515.out) hb);have n4_ := Aside0.mk (blk_below (g := gb520) (o := .cells #[.slice Ao26 t517.length co26] 62 (0, 0)) (by exact kP BK520.out) hb);have n5_ := Aside0.mk (below_step (by exact bB) hb);have n6_ := Aside0.mk (hbox);have n7_ := Aside0.mk ((by rw [hg];exact (below_size (by exact bB)) : w.heap.size ≤ gb522));have n8_ := Aside0.mk ((by rw [hg];exact (below_size (by exact bB)) : w.heap.size ≤ gb522));have n9_ := Aside0.mk ((by rw [hg];exact Nat.ne_of_lt (blk_lt (g := gb513) (o := .cells #[.int .i64 a0_0, .slice A0_1 l0_1.length c0_1] 28 (0, 0)) (by exact kP BK513.out)) : gb513 ≠ gb522));have n10_ := Aside0.mk ((by rw [hg];exact Nat.ne_of_gt (blk_lt (g := gb513) (o := .cells #[.int .i64 a0_0, .slice A0_1 l0_1.length c0_1] 28 (0, 0)) (by exact kP BK513.out)) : gb522 ≠ gb513));have n11_ := Aside0.mk ((by rw [hg];exact Nat.ne_of_lt (blk_lt (g := gb514) (o := .cells #[.slice (some ad521) l1.length c1] 38 (0, 0)) (by exact kP BK514.out)) : gb514 ≠ gb522));have n12_ := Aside0.mk ((by rw [hg];exact Nat.ne_of_gt (blk_lt (g := gb514) (o := .cells #[.slice (some ad521) l1.length c1] 38 (0, 0)) (by exact kP BK514.out)) : gb522 ≠ gb514));have n13_ := Aside0.mk ((by rw [hg];exact Nat.ne_of_lt (blk_lt (g := gb515) (o := .cells #[.bool a2] 4 (0, 0)) (by exact kP BK515.out)) : gb515 ≠ gb522));have n14_ := Aside0.mk ((by rw [hg];exact Nat.ne_of_gt (blk_lt (g := gb515) (o := .cells #[.bool a2] 4 (0, 0)) (by exact kP BK515.out)) : gb522 ≠ gb515));have n15_ := Aside0.mk ((by rw [hg];exact Nat.ne_of_lt (blk_lt (g := gb520) (o := .cells #[.slice Ao26 t517.length co26] 62 (0, 0)) (by exact kP BK520.out)) : gb520 ≠ gb522));have n16_ := Aside0.mk ((by rw [hg];exact Nat.ne_of_gt (blk_lt (g := gb520) (o := .cells #[.slice Ao26 t517.length co26] 62 (0, 0)) (by exact kP BK520.out)) : gb522 ≠ gb520));clear HO_521000;clear BK513;clear BK514;clear BK515;clear BK520;clear HB;have HO_521000 := n0_;have BK513 := n1_;have BK514 := n2_;have BK515 := n3_;have BK520 := n4_;have HB := n5_;have BK522 := n6_;have GW522 := n7_;have GE522 := n8_;have NB513_522 := n9_;have NB522_513 := n10_;have NB514_522 := n11_;have NB522_514 := n12_;have NB515_522 := n13_;have NB522_515 := n14_;have NB520_522 := n15_;have NB522_520 := n16_;clear n0_ n1_ n2_ n3_ n4_ n5_ n6_ n7_ n8_ n9_ n10_ n11_ n12_ n13_ n14_ n15_ n16_;clear hb hbox hg;have hnb40 := NB522_513.out;have hnc40 := NB513_522.out;have hnb41 := NB522_514.out;have hnc41 := NB514_522.out;have hnb42 := NB522_515.out;have hnc42 := NB515_522.out;have hnb43 := NB522_520.out;have hnc43 := NB520_522.out;have hcz44_0 : w39.cell? ⟨gb522, 0, none⟩ = some (.slice none 0 0) := (blk_cell BK522.out 0).trans rfl;have hfz44_0 := blk_frozen BK522.out 0))
         have n0_ : Aside0 (Kd.R (Kd.int .i64) 3 (w39.setCell ⟨gb522, 0, none⟩ (.slice A521_0 (rd_L2 l1 x25_2).length c521_0)) w.heap.size (fun _ => True) (.slice Ao26 t517.length co26) t517) := ⟨by refine rP ?_;exact Kd.R_mono (Kd.R_far (p := ⟨gb522, 0, none⟩) (Kd.R_types HO_521000.out BK522.out (by decide)) (fun _ hk => hk.2) (.slice A521_0 (rd_L2 l1 x25_2).length c521_0)) (fun _ hk => trivial)⟩
         have n1_ : Aside0 ((w39.setCell ⟨gb522, 0, none⟩ (.slice A521_0 (rd_L2 l1 x25_2).length c521_0)).heap[gb513]? = some (.cells #[.int .i64 a0_0, .slice A0_1 l0_1.length c0_1] 28 (0, 0))) := ⟨by refine kP ?_;refine blk_far ?_ NB513_522.out _;exact kP BK513.out⟩
         have n2_ : Aside0 ((w39.setCell ⟨gb522, 0, none⟩ (.slice A521_0 (rd_L2 l1 x25_2).length c521_0)).heap[gb514]? = some (.cells #[.slice (some ad521) l1.length c1] 38 (0, 0))) := ⟨by refine kP ?_;refine blk_far ?_ NB514_522.out _;exact kP BK514.out⟩
         have n3_ : Aside0 ((w39.setCell ⟨gb522, 0, none⟩ (.slice A521_0 (rd_L2 l1 x25_2).length c521_0)).heap[gb515]? = some (.cells #[.bool a2] 4 (0, 0))) := ⟨by refine kP ?_;refine blk_far ?_ NB515_522.out _;exact kP BK515.out⟩
         have n4_ : Aside0 ((w39.setCell ⟨gb522, 0, none⟩ (.slice A521_0 (rd_L2 l1 x25_2).length c521_0)).heap[gb520]? = some (.cells #[.slice Ao26 t517.length co26] 62 (0, 0))) := ⟨by refine kP ?_;refine blk_far ?_ NB520_522.out _;exact kP BK520.out⟩
         have n5_ : Aside0 ((w39.setCell ⟨gb522, 0, none⟩ (.slice A521_0 (rd_L2 l1 x25_2).length c521_0)).heap[gb522]? = some (.cells #[.slice A521_0 (rd_L2 l1 x25_2).length c521_0] 32 (0, 0))) := ⟨by refine kP ?_;refine blk_put (cs := #[.slice none 0 0]) ?_ 0 _ rfl;exact kP BK522.out⟩
         have n6_ : Aside0 (Below w.heap.size w (w39.setCell ⟨gb522, 0, none⟩ (.slice A521_0 (rd_L2 l1 x25_2).length c521_0))) := ⟨by exact bB⟩
         (try clear HO_521000)
         (try clear BK513)
         (try clear BK514)
         (try clear BK515)
         (try clear BK520)
         (try clear BK522)
         (try clear HB)
         generalize (w39.setCell ⟨gb522, 0, none⟩ (.slice A521_0 (rd_L2 l1 x25_2).length c521_0)) = w45 at n0_ n1_ n2_ n3_ n4_ n5_ n6_ ⊢
         have HO_521000 := n0_
         have BK513 := n1_
         have BK514 := n2_
         have BK515 := n3_
         have BK520 := n4_
         have BK522 := n5_
         have HB := n6_
         clear n0_ n1_ n2_ n3_ n4_ n5_ n6_
         have n0_ := Aside0.mk (Kd.R_drew HO_521000.out)
         have n1_ := Aside0.mk (blk_drew BK513.out)
         have n2_ := Aside0.mk (blk_drew BK514.out)
         have n3_ := Aside0.mk (blk_drew BK515.out)
         have n4_ := Aside0.mk (blk_drew BK520.out)
         have n5_ := Aside0.mk (blk_drew BK522.out)
         have n6_ := Aside0.mk (below_drew1 HB.out)
         clear HO_521000
         clear BK513
         clear BK514
         clear BK515
         clear BK520
         clear BK522
         clear HB
         have HO_521000 := n0_
         have BK513 := n1_
         have BK514 := n2_
         have BK515 := n3_
         have BK520 := n4_
         have BK522 := n5_
         have HB := n6_
         clear n0_ n1_ n2_ n3_ n4_ n5_ n6_
         refine start_ (n := 8) (S := fun w' => w'.cell? ⟨gb520, 0, none⟩ = some (.slice Ao26 t517.length co26) ∧ w'.cell? ⟨gb522, 0, none⟩ = some (.slice A521_0 (rd_L2 l1 x25_2).length c521_0)) (ds := []) #[false,false,false,false,false,false,false,false] (by kernel_rfl) rfl rfl ⟨(blk_cell BK520.out 0).trans rfl, (blk_cell BK522.out 0).trans rfl⟩ (fun hHeld => ?_);refine with_tabW impl_isEternalFamily.tab7 impl_isEternalFamily.bits7 (fun HT_ HW_ => ?_)
         generalize w45.drew = w46 at HO_521000 BK513 BK514 BK515 BK520 BK522 HB hHeld ⊢
         refine pure_ (i := 7) (N := some 36) (v := ?_) (a' := ?_) #[false,false,false,false,false,false,false,true] rfl rfl (any_of HT_.out (by kernel_rfl)) (fun _ _ _ h => h) (Or.inl ⟨by rfl, ?_⟩) ?_ ?_
         rotate_left
         ·intro w'
          go_simp
          with_reducible rfl
         rotate_left
         ·simp only [Act.put, List.setIfInBounds_toArray, List.set_cons_zero, List.set_cons_succ, i64_w, i32_w]
          rfl
         refine take_ (i := 0) (N := some 29) (v := ?_) (a' := ?_) #[true,false,false,false,false,false,false,true] rfl rfl (take_ofW HT_.out HW_.out (by kernel_rfl)) (fun _ _ _ h => h) (Or.inl ⟨by rfl, ?_⟩) hHeld ?_ ?_
         rotate_left
         ·rintro w' ⟨s0, s1⟩
          go_simp
          with_reducible rfl
         rotate_left
         ·simp only [Act.put, List.setIfInBounds_toArray, List.set_cons_zero, List.set_cons_succ, i64_w, i32_w]
          rfl
         refine take_ (i := 2) (N := some 31) (v := ?_) (a' := ?_) #[true,false,true,false,false,false,false,true] rfl rfl (take_ofW HT_.out HW_.out (by kernel_rfl)) (fun _ _ _ h => h) (Or.inl ⟨by rfl, ?_⟩) hHeld ?_ ?_
         rotate_left
         ·rintro w' ⟨s0, s1⟩
          go_simp
          with_reducible rfl
         rotate_left
         ·simp only [Act.put, List.setIfInBounds_toArray, List.set_cons_zero, List.set_cons_succ, i64_w, i32_w]
          rfl
         refine one_ (i := 1) (N := some 30) #[true,true,true,false,false,false,false,true] rfl rfl (one_of HT_.out (by kernel_rfl)) (by decide) (fun K hK => ?_)
         refine goes_ Tryd.func46 (by kernel_rfl) rfl #[.agg #[.slice Ao26 t517.length co26]] (by rfl) rfl rfl mM ?_
         with_reducible refine (impl_net_all.calls _ _ t517 t523 _ ?side1 ?side2 A36.out).mono ?_
         (case side1 => exact cP (Kd.R_reads' HO_521000.out).2.2)
         (case side2 => exact (Kd.R_reads' HO_521000.out).2.1)
         rintro e w47 ⟨rfl, hb⟩
         refine ⟨_, rfl, ?_⟩
         have n0_ := Aside0.mk (Kd.R_below (by exact rP HO_521000.out) hb)
         have n1_ := Aside0.mk (blk_below (g := gb513) (o := .cells #[.int .i64 a0_0, .slice A0_1 l0_1.length c0_1] 28 (0, 0)) (by exact kP BK513.out) hb)
         have n2_ := Aside0.mk (blk_below (g := gb514) (o := .cells #[.slice (some ad521) l1.length c1] 38 (0, 0)) (by exact kP BK514.out) hb)
         have n3_ := Aside0.mk (blk_below (g := gb515) (o := .cells #[.bool a2] 4 (0, 0)) (by exact kP BK515.out) hb)
         have n4_ := Aside0.mk (blk_below (g := gb520) (o := .cells #[.slice Ao26 t517.length co26] 62 (0, 0)) (by exact kP BK520.out) hb)
         have n5_ := Aside0.mk (blk_below (g := gb522) (o := .cells #[.slice A521_0 (rd_L2 l1 x25_2).length c521_0] 32 (0, 0)) (by exact kP BK522.out) hb)
         have n6_ := Aside0.mk (below_step (by exact bB) hb)
         clear HO_521000
         clear BK513
         clear BK514
         clear BK515
         clear BK520
         clear BK522
         clear HB
         have HO_521000 := n0_
         have BK513 := n1_
         have BK514 := n2_
         have BK515 := n3_
         have BK520 := n4_
         have BK522 := n5_
         have HB := n6_
         clear n0_ n1_ n2_ n3_ n4_ n5_ n6_
         (try clear hb)
         (try clear hb2)
         (try clear hk)
         (try clear hi)
         refine hK.out _ _ ⟨(blk_cell BK520.out 0).trans rfl, (blk_cell BK522.out 0).trans rfl⟩ (fun hHeld => ?_)
         clear hK K
         refine norm_ (a' := ?_) ?_ ?_
         rotate_left
         ·show Act.put _ (some 30) _ = _
          simp only [Act.put, List.setIfInBounds_toArray, List.set_cons_zero, List.set_cons_succ, i64_w, i32_w]
          rfl
         refine one_ (i := 3) (N := some 32) #[true,true,true,true,false,false,false,true] rfl rfl (one_of HT_.out (by kernel_rfl)) (by decide) (fun K hK => ?_)
         refine goes_ Tryd.func54 (by kernel_rfl) rfl #[.slice A521_0 (rd_L2 l1 x25_2).length c521_0] (by rfl) rfl rfl mM ?_
         with_reducible refine (impl_maskOf.calls k2 _ _ (rd_L2 l1 x25_2) t524 _ ?side1 ?side2 A37.out).mono ?_
         (case side1 => exact cP (Kd.C_below HR521_0.out HB.out))
         (case side2 => exact HC521_0.out)
         rintro e w' ⟨rfl, ⟨nd, rfl⟩⟩
         refine ⟨_, rfl, ?_⟩
         refine hK.out _ _ ⟨(blk_cell BK520.out 0).trans rfl, (blk_cell BK522.out 0).trans rfl⟩ (fun hHeld => ?_)
         clear hK K
         refine norm_ (a' := ?_) ?_ ?_
         rotate_left
         ·show Act.put _ (some 32) _ = _
          simp only [Act.put, List.setIfInBounds_toArray, List.set_cons_zero, List.set_cons_succ, i64_w, i32_w]
          rfl
         refine pure_ (i := 4) (N := some 33) (v := ?_) (a' := ?_) #[true,true,true,true,true,false,false,true] rfl rfl (any_of HT_.out (by kernel_rfl)) (fun _ _ _ h => h) (Or.inl ⟨by rfl, ?_⟩) ?_ ?_
         rotate_left
         ·intro w'
          go_simp
          with_reducible rfl
         rotate_left
         ·simp only [Act.put, List.setIfInBounds_toArray, List.set_cons_zero, List.set_cons_succ, i64_w, i32_w]
          rfl
         refine one_ (i := 5) (N := some 34) #[true,true,true,true,true,true,false,true] rfl rfl (one_of HT_.out (by kernel_rfl)) (by decide) (fun K hK => ?_)
         refine goes_ Tryd.func48 (by kernel_rfl) rfl #[.int .i64 (Go.bits .andNot .i64 t523 t524)] (by rfl) rfl rfl mM ?_
         with_reducible refine (impl_setOf.calls k2 (Go.bits .andNot .i64 t523 t524) t525 _ A38.out).mono ?_
         rintro e w48 ⟨v526, rfl, ho0, hb⟩
         refine ⟨_, rfl, ?_⟩
         have n0_ := Aside0.mk (Kd.R_elder' (by exact rP HO_521000.out) (Kd.R_base ho0) hb)
         have n1_ := Aside0.mk (Kd.R_lower (Kd.R_new' ho0 (Kd.R_lt (by exact rP HO_521000.out))) (below_size (by exact bB)))
         have n2_ := Aside0.mk (blk_below (g := gb513) (o := .cells #[.int .i64 a0_0, .slice A0_1 l0_1.length c0_1] 28 (0, 0)) (by exact kP BK513.out) hb)
         have n3_ := Aside0.mk (blk_below (g := gb514) (o := .cells #[.slice (some ad521) l1.length c1] 38 (0, 0)) (by exact kP BK514.out) hb)
         have n4_ := Aside0.mk (blk_below (g := gb515) (o := .cells #[.bool a2] 4 (0, 0)) (by exact kP BK515.out) hb)
         have n5_ := Aside0.mk (blk_below (g := gb520) (o := .cells #[.slice Ao26 t517.length co26] 62 (0, 0)) (by exact kP BK520.out) hb)
         have n6_ := Aside0.mk (blk_below (g := gb522) (o := .cells #[.slice A521_0 (rd_L2 l1 x25_2).length c521_0] 32 (0, 0)) (by exact kP BK522.out) hb)
         have n7_ := Aside0.mk (below_step (by exact bB) hb)
         clear HO_521000
         clear BK513
         clear BK514
         clear BK515
         clear BK520
         clear BK522
         clear HB
         have HO_521000 := n0_
         have HO527 := n1_
         have BK513 := n2_
         have BK514 := n3_
         have BK515 := n4_
         have BK520 := n5_
         have BK522 := n6_
         have HB := n7_
         clear n0_ n1_ n2_ n3_ n4_ n5_ n6_ n7_
         (try clear hb)
         (try clear hb2)
         (try clear hk)
         (try clear hi)
         (try clear ho0)
         obtain ⟨Ao49, co49, eo49⟩ := Kd.R_slice HO527.out
         (first | subst eo49 | (injection eo49 with f1_ f2_ f3_;have f4_ := f1_.symm;have f5_ := f3_.symm;clear f1_ f2_ f3_;subst f4_;subst f5_))
         refine hK.out _ _ ⟨(blk_cell BK520.out 0).trans rfl, (blk_cell BK522.out 0).trans rfl⟩ (fun hHeld => ?_)
         clear hK K
         refine norm_ (a' := ?_) ?_ ?_
         rotate_left
         ·show Act.put _ (some 34) _ = _
          simp only [Act.put, List.setIfInBounds_toArray, List.set_cons_zero, List.set_cons_succ, i64_w, i32_w]
          rfl
         refine pure_ (i := 6) (N := some 35) (v := ?_) (a' := ?_) #[true,true,true,true,true,true,true,true] rfl rfl (any_of HT_.out (by kernel_rfl)) (fun _ _ _ h => h) (Or.inl ⟨by rfl, ?_⟩) ?_ ?_
         rotate_left
         ·intro w'
          go_simp
          with_reducible rfl
         rotate_left
         ·simp only [Act.put, List.setIfInBounds_toArray, List.set_cons_zero, List.set_cons_succ, i64_w, i32_w]
          rfl
         refine done_ (done_of HT_.out (by kernel_rfl)) ?_
         try go_wp2
         go_loopg [36] k2 (fun kq v36 w' => ∃ (x36_3 : Int), v36 = .int .i64 x36_3 ∧ Aside0 (impl_isEternalFamily.l1 kq l1 (l1.length : Int) x25_2 t525 (t525.length : Int) x36_3 l1 a2 t517 (rd_L2 l1 x25_2) = some r) ∧ Aside0 (kq ≤ k2) ∧ Aside0 (Kd.R (Kd.int .i64) 3 w' w.heap.size (fun k_ => some k_ ≠ ((.slice Ao26 t517.length co26) : Value).ownBlock) (.slice Ao49 t525.length co49) t525) ∧ Aside0 (Kd.R (Kd.int .i64) 3 w' w.heap.size (fun k_ => some k_ ≠ ((.slice Ao49 t525.length co49) : Value).ownBlock) (.slice Ao26 t517.length co26) t517) ∧ Aside0 (w'.heap[gb513]? = some (.cells #[.int .i64 a0_0, (.slice A0_1 l0_1.length c0_1)] 28 (0, 0))) ∧ Aside0 (w'.heap[gb514]? = some (.cells #[(.slice (some ad521) l1.length c1)] 38 (0, 0))) ∧ Aside0 (w'.heap[gb515]? = some (.cells #[.bool a2] 4 (0, 0))) ∧ Aside0 (w'.heap[gb520]? = some (.cells #[(.slice Ao26 t517.length co26)] 62 (0, 0))) ∧ Aside0 (w'.heap[gb522]? = some (.cells #[(.slice A521_0 (rd_L2 l1 x25_2).length c521_0)] 32 (0, 0))) ∧ Aside0 (Below w.heap.size w w'))
         case atStart => exact ⟨(0), (by first | rfl | (simp;done) | (simp [*];done)), H', ⟨Nat.le_refl _⟩, ⟨by refine rP ?_;exact Kd.R_mono HO527.out (fun _ hk => hk.2)⟩, ⟨by refine rP ?_;exact Kd.R_mono HO_521000.out (fun _ hk => hk.2)⟩, ⟨by exact kP BK513.out⟩, ⟨by exact kP BK514.out⟩, ⟨by exact kP BK515.out⟩, ⟨by exact kP BK520.out⟩, ⟨by exact kP BK522.out⟩, ⟨by exact bB⟩⟩
         case round =>
          clear H'
          try clear c1
          try clear c2
          try clear p2
          try clear c3
          try clear c4
          try clear c5
          try clear p5
          try clear q5
          try clear hx5
          try clear c8
          try clear c8b0
          try clear c8b1
          try clear c8b2
          try clear c9
          try clear c10
          try clear c13
          try clear c14
          try clear c16
          try clear c19
          try clear c21
          try clear c22
          try clear c27
          try clear c28
          try clear c29
          try clear c31
          try clear c33
          try clear c33b0
          try clear c34
          try clear c34b0
          try clear c35
          try clear c35b0
          try clear c40
          try clear c41
          try clear c42
          try clear c43
          try clear c45
          try clear c46
          try clear c48
          try clear hcz11_0
          try clear hcz15_0
          try clear hcz17_0
          try clear hcz17_1
          try clear hcz23_0
          try clear hcz23_1
          try clear hcz30_0
          try clear hcz32_0
          try clear hcz44_0
          try clear hfz11_0
          try clear hfz15_0
          try clear hfz17_0
          try clear hfz17_1
          try clear hfz23_0
          try clear hfz23_1
          try clear hfz30_0
          try clear hfz32_0
          try clear hfz44_0
          try clear hx521_0
          try clear p2
          try clear p521
          try clear q521
          obtain ⟨x36_3, rfl, HA, HK3, HO_34, HO_521000, BK513, BK514, BK515, BK520, BK522, HB⟩ := hrel
          cases gk with
          | zero => exact absurd HA.out (by simp [impl_isEternalFamily.l1])
          | succ k3 =>
           have H := HA.out
           clear HA
           simp only [impl_isEternalFamily.l1] at H
           by_cases c50 : x36_3 < (t525.length : Int)
           ·rw [if_pos c50] at H
            have c50b0 : decide (x36_3 < (t525.length : Int)) = true := decide_eq_true c50
            clear c50
            by_cases c51 : 0 ≤ x36_3
            ·rw [if_pos c51] at H
             have c51b0 : decide (0 ≤ x36_3) = true := decide_eq_true c51
             clear c51
             by_cases c52 : x36_3 < (t525.length : Int)
             ·rw [if_pos c52] at H
              have c52b0 : decide (x36_3 < (t525.length : Int)) = true := decide_eq_true c52
              clear c52
              replace H := Option.bind_eq_some_iff.mp H
              obtain ⟨t530, A530, H⟩ := H
              replace H : (if t530 = true then (impl_isEternalFamily.l1 k3 l1 (l1.length : Int) x25_2 t525 (t525.length : Int) (wrap64 (x36_3 + 1)) l1 a2 t517 (rd_L2 l1 x25_2)) else (some false)) = some r := H
              have A53 := Aside0.mk A530
              clear A530
              by_cases c54 : t530 = true
              ·subst c54
               have H1 : (impl_isEternalFamily.l1 k3 l1 (l1.length : Int) x25_2 t525 (t525.length : Int) (wrap64 (x36_3 + 1)) l1 a2 t517 (rd_L2 l1 x25_2)) = some r := by rw [if_pos rfl] at H;exact H
               clear H
               have H := H1
               clear H1
               have H' := Aside0.mk H
               clear H
               have p528 : 0 ≤ (x36_3 : Int) := oA
               have q528 : x36_3 < (t525.length : Int) := oA
               obtain ⟨ad528, e528, hx528_0⟩ := Kd.at_int (Kd.R_reads' HO_34.out).2.2 x36_3 p528 q528
               cases e528
               replace p528 := eq_true p528
               replace q528 := eq_true q528
               go_wp2_with (first | ((with_reducible refine gate_dst (N := 11) rfl ?_);refine box_event ?hg (N := 11) ?hd (cs := #[.int .i64 0]) (t := 3) ?hr ?_;(case hd => rfl);(case hg => rfl);(case hr => first | (go_simp;done) | (go_simp;rfl));intro gb529 hg w55 hbox hb;have n0_ := Aside0.mk (Kd.R_below (Kd.R_elderB (rP HO_34.out) gb529 (Nat.le_of_eq hg.symm)) hb);have n1_ := Aside0.mk (Kd.R_below (Kd.R_elderB (rP HO_521000.out) gb529 (Nat.le_of_eq hg.symm)) hb);have n2_ := Aside0.mk (blk_below (g := gb513) (o := .cells #[.int .i64 a0_0, .slice A0_1 l0_1.length c0_1] 28 (0, 0)) (by exact kP BK513.out) hb);have n3_ := Aside0.mk (blk_below (g := gb514) (o := .cells #[.slice (some ad521) l1.length c1] 38 (0, 0)) (by exact kP BK514.out) hb);have n4_ := Aside0.mk (blk_below (g := gb515) (o := .cells #[.bool a2] 4 (0, 0)) (by exact kP BK515.out) hb);have n5_ := Aside0.mk (blk_below (g := gb520) (o := .cells #[.slice Ao26 t517.length co26] 62 (0, 0)) (by exact kP BK520.out) hb);have n6_ := Aside0.mk (blk_below (g := gb522) (o := .cells #[.slice A521_0 (rd_L2 l1 x25_2).length c521_0] 32 (0, 0)) (by exact kP BK522.out) hb);have n7_ := Aside0.mk (below_step (by exact bB) hb);have n8_ := Aside0.mk (hbox);have n9_ := Aside0.mk ((by rw [hg];exact (below_size (by exact bB)) : w.heap.size ≤ gb529));have n10_ := Aside0.mk ((by rw [hg];exact (below_size (by exact bB)) : w.heap.size ≤ gb529));have n11_ := Aside0.mk ((by rw [hg];exact Nat.ne_of_lt (blk_lt (g := gb513) (o := .cells #[.int .i64 a0_0, .slice A0_1 l0_1.length c0_1] 28 (0, 0)) (by exact kP BK513.out)) : gb513 ≠ gb529));have n12_ := Aside0.mk ((by rw [hg];exact Nat.ne_of_gt (blk_lt (g := gb513) (o := .cells #[.int .i64 a0_0, .slice A0_1 l0_1.length c0_1] 28 (0, 0)) (by exact kP BK513.out)) : gb529 ≠ gb513));have n13_ := Aside0.mk ((by rw [hg];exact Nat.ne_of_lt (blk_lt (g := gb514) (o := .cells #[.slice (some ad521) l1.length c1] 38 (0, 0)) (by exact kP BK514.out)) : gb514 ≠ gb529));have n14_ := Aside0.mk ((by rw [hg];exact Nat.ne_of_gt (blk_lt (g := gb514) (o := .cells #[.slice (some ad521) l1.length c1] 38 (0, 0)) (by exact kP BK514.out)) : gb529 ≠ gb514));have n15_ := Aside0.mk ((by rw [hg];exact Nat.ne_of_lt (blk_lt (g := gb515) (o := .cells #[.bool a2] 4 (0, 0)) (by exact kP BK515.out)) : gb515 ≠ gb529));have n16_ := Aside0.mk ((by rw [hg];exact Nat.ne_of_gt (blk_lt (g := gb515) (o := .cells #[.bool a2] 4 (0, 0)) (by exact kP BK515.out)) : gb529 ≠ gb515));have n17_ := Aside0.mk ((by rw [hg];exact Nat.ne_of_lt (blk_lt (g := gb520) (o := .cells #[.slice Ao26 t517.length co26] 62 (0, 0)) (by exact kP BK520.out)) : gb520 ≠ gb529));have n18_ := Aside0.mk ((by rw [hg];exact Nat.ne_of_gt (blk_lt (g := gb520) (o := .cells #[.slice Ao26 t517.length co26] 62 (0, 0)) (by exact kP BK520.out)) : gb529 ≠ gb520));have n19_ := Aside0.mk ((by rw [hg];exact Nat.ne_of_lt (blk_lt (g := gb522) (o := .cells #[.slice A521_0 (rd_L2 l1 x25_2).length c521_0] 32 (0, 0)) (by exact kP BK522.out)) : gb522 ≠ gb529));have n20_ := Aside0.mk ((by rw [hg];exact Nat.ne_of_gt (blk_lt (g := gb522) (o := .cells #[.slice A521_0 (rd_L2 l1 x25_2).length c521_0] 32 (0, 0)) (by exact kP BK522.out)) : gb529 ≠ gb522));clear HO_34;clear HO_521000;clear BK513;clear BK514;clear BK515;clear BK520;clear BK522;clear HB;have HO_34 := n0_;have HO_521000 := n1_;have BK513 := n2_;have BK514 := n3_;have BK515 := n4_;have BK520 := n5_;have BK522 := n6_;have HB := n7_;have BK529 := n8_;have GW529 := n9_;have GE529 := n10_;have NB513_529 := n11_;have NB529_513 := n12_;have NB514_529 := n13_;have NB529_514 := n14_;have NB515_529 := n15_;have NB529_515 := n16_;have NB520_529 := n17_;have NB529_520 := n18_;have NB522_529 := n19_;have NB529_522 := n20_;clear n0_ n1_ n2_ n3_ n4_ n5_ n6_ n7_ n8_ n9_ n10_ n11_ n12_ n13_ n14_ n15_ n16_ n17_ n18_ n19_ n20_;clear hb hbox hg;have hnb56 := NB529_513.out;have hnc56 := NB513_529.out;have hnb57 := NB529_514.out;have hnc57 := NB514_529.out;have hnb58 := NB529_515.out;have hnc58 := NB515_529.out;have hnb59 := NB529_520.out;have hnc59 := NB520_529.out;have hnb60 := NB529_522.out;have hnc60 := NB522_529.out;have hcz61_0 : w55.cell? ⟨gb529, 0, none⟩ = some (.int .i64 0) := (blk_cell BK529.out 0).trans rfl;have hfz61_0 := blk_frozen BK529.out 0;have hnb62 := NB514_513.out;have hnc62 := NB513_514.out;have hnb63 := NB514_515.out;have hnc63 := NB515_514.out;have hnb64 := NB514_520.out;have hnc64 := NB520_514.out;have hnb65 := NB514_522.out;have hnc65 := NB522_514.out;have hcz66_0 : w55.cell? ⟨gb514, 0, none⟩ = some (.slice (some ad521) l1.length c1) := (blk_cell BK514.out 0).trans rfl;have hfz66_0 := blk_frozen BK514.out 0;have hnb67 := NB520_513.out;have hnc67 := NB513_520.out;have hnb68 := NB520_515.out;have hnc68 := NB515_520.out;have hnb69 := NB520_522.out;have hnc69 := NB522_520.out;have hcz70_0 : w55.cell? ⟨gb520, 0, none⟩ = some (.slice Ao26 t517.length co26) := (blk_cell BK520.out 0).trans rfl;have hfz70_0 := blk_frozen BK520.out 0;have hnb71 := NB522_513.out;have hnc71 := NB513_522.out;have hnb72 := NB522_515.out;have hnc72 := NB515_522.out;have hcz73_0 : w55.cell? ⟨gb522, 0, none⟩ = some (.slice A521_0 (rd_L2 l1 x25_2).length c521_0) := (blk_cell BK522.out 0).trans rfl;have hfz73_0 := blk_frozen BK522.out 0;have hnb74 := NB515_513.out;have hnc74 := NB513_515.out;have hcz75_0 : w55.cell? ⟨gb515, 0, none⟩ = some (.bool a2) := (blk_cell BK515.out 0).trans rfl;have hfz75_0 := blk_frozen BK515.out 0) | ((with_reducible refine gate_callee (f := 97) rfl ?_);refine goesL_ (some 42) rfl rfl Tryd.func97 (by kernel_rfl) rfl #[.slice (some ad521) l1.length c1, .func (.func 99) #[] #[.pointer (some ⟨gb529, 0, none⟩), .pointer (some ⟨gb520, 0, none⟩), .pointer (some ⟨gb522, 0, none⟩), .pointer (some ⟨gb515, 0, none⟩)]] rfl mM ?_;(with_reducible refine (impl_valAns.calls gb529 gb520 gb522 gb515 k3 Ao26 co26 t517 _ _ l1 A521_0 c521_0 (rd_L2 l1 x25_2) (rd t525 x36_3) a2 true _ ?sideT ?side1 ?side2 ?side3 ?side4 ?side5 ?side6 A53.out ?sX11 ?sX7 ?sX9 ?sX5).mono ?_);(case sideT => exact tabG_below HT.out (by exact bB));(case sX11 => refine kP ?_;refine blk_put (cs := #[.int .i64 0]) ?_ 0 _ rfl;exact kP BK529.out);(case sX7 => refine kP ?_;refine blk_far ?_ NB520_529.out _;exact kP BK520.out);(case sX9 => refine kP ?_;refine blk_far ?_ NB522_529.out _;exact kP BK522.out);(case sX5 => refine kP ?_;refine blk_far ?_ NB515_529.out _;exact kP BK515.out);(case side1 => refine (Kd.R_reads' (e := 3) (base := w.heap.size) (ok := fun k_ => some k_ ≠ (.slice (some ad528) t525.length co49 : Value).ownBlock) (n := t517.length) (c := co26) ?_).2.2;exact (by refine rP ?_;exact (Kd.R_mono (Kd.R_far (p := ⟨gb529, 0, none⟩) HO_521000.out (fun _ hk => hk.2) (.int .i64 (rd t525 x36_3))) (fun _ h_ => h_.1))));(case side2 => exact (Kd.R_reads' HO_521000.out).2.1);(case side3 => exact Kd.C_below HR1.out (by exact bB));(case side4 => exact HC1.out);(case side5 => exact Kd.C_below HR521_0.out (by exact bB));(case side6 => exact HC521_0.out);rintro e w76 ⟨rfl, hb⟩;refine ⟨_, rfl, ?_⟩;have n0_ := Aside0.mk (Kd.R_below (by exact rP ((Kd.R_mono (Kd.R_far (p := ⟨gb529, 0, none⟩) HO_34.out (fun _ hk => hk.2) (.int .i64 (rd t525 x36_3))) (fun _ h_ => h_.1)))) hb);have n1_ := Aside0.mk (Kd.R_below (by exact rP ((Kd.R_mono (Kd.R_far (p := ⟨gb529, 0, none⟩) HO_521000.out (fun _ hk => hk.2) (.int .i64 (rd t525 x36_3))) (fun _ h_ => h_.1)))) hb);have n2_ := Aside0.mk (blk_below (g := gb513) (o := .cells #[.int .i64 a0_0, .slice A0_1 l0_1.length c0_1] 28 (0, 0)) (by refine kP ?_;refine blk_far ?_ NB513_529.out _;exact kP BK513.out) hb);have n3_ := Aside0.mk (blk_below (g := gb514) (o := .cells #[.slice (some ad521) l1.length c1] 38 (0, 0)) (by refine kP ?_;refine blk_far ?_ NB514_529.out _;exact kP BK514.out) hb);have n4_ := Aside0.mk (blk_below (g := gb515) (o := .cells #[.bool a2] 4 (0, 0)) (by refine kP ?_;refine blk_far ?_ NB515_529.out _;exact kP BK515.out) hb);have n5_ := Aside0.mk (blk_below (g := gb520) (o := .cells #[.slice Ao26 t517.length co26] 62 (0, 0)) (by refine kP ?_;refine blk_far ?_ NB520_529.out _;exact kP BK520.out) hb);have n6_ := Aside0.mk (blk_below (g := gb522) (o := .cells #[.slice A521_0 (rd_L2 l1 x25_2).length c521_0] 32 (0, 0)) (by refine kP ?_;refine blk_far ?_ NB522_529.out _;exact kP BK522.out) hb);have n7_ := Aside0.mk (blk_below (g := gb529) (o := .cells #[.int .i64 (rd t525 x36_3)] 3 (0, 0)) (by refine kP ?_;refine blk_put (cs := #[.int .i64 0]) ?_ 0 _ rfl;exact kP BK529.out) hb);have n8_ := Aside0.mk (below_step (by exact bB) hb);clear HO_34;clear HO_521000;clear BK513;clear BK514;clear BK515;clear BK520;clear BK522;clear BK529;clear HB;have HO_34 := n0_;have HO_521000 := n1_;have BK513 := n2_;have BK514 := n3_;have BK515 := n4_;have BK520 := n5_;have BK522 := n6_;have BK529 := n7_;have HB := n8_;clear n0_ n1_ n2_ n3_ n4_ n5_ n6_ n7_ n8_;(try clear hb);(try clear hb2);(try clear hk);(try clear hi)))
               go_roundg k3
               case measure => have := HJ3.out;have := HK2.out;have := HK3.out;omega
               case rel => exact ⟨(wrap64 (x36_3 + 1)), (by first | rfl | (simp;done) | (simp [*];done)), H', ⟨by have := HJ3.out;have := HK2.out;have := HK3.out;omega⟩, ⟨by exact rP HO_34.out⟩, ⟨by exact rP HO_521000.out⟩, ⟨by exact kP BK513.out⟩, ⟨by exact kP BK514.out⟩, ⟨by exact kP BK515.out⟩, ⟨by exact kP BK520.out⟩, ⟨by exact kP BK522.out⟩, ⟨by exact bB⟩⟩
              ·replace c54 := Bool.eq_false_iff.mpr c54
               subst c54
               have H1 : (some false) = some r := by rw [if_neg (show ¬ (false = true) by decide)] at H;exact H
               clear H
               have H := H1
               clear H1
               obtain rfl := Option.some.inj H
               have p528 : 0 ≤ (x36_3 : Int) := oA
               have q528 : x36_3 < (t525.length : Int) := oA
               obtain ⟨ad528, e528, hx528_0⟩ := Kd.at_int (Kd.R_reads' HO_34.out).2.2 x36_3 p528 q528
               cases e528
               replace p528 := eq_true p528
               replace q528 := eq_true q528
               go_wp2_with (first | ((with_reducible refine gate_dst (N := 11) rfl ?_);refine box_event ?hg (N := 11) ?hd (cs := #[.int .i64 0]) (t := 3) ?hr ?_;(case hd => rfl);(case hg => rfl);(case hr => first | (go_simp;done) | (go_simp;rfl));intro gb529 hg w77 hbox hb;have n0_ := Aside0.mk (Kd.R_below (Kd.R_elderB (rP HO_34.out) gb529 (Nat.le_of_eq hg.symm)) hb);have n1_ := Aside0.mk (Kd.R_below (Kd.R_elderB (rP HO_521000.out) gb529 (Nat.le_of_eq hg.symm)) hb);have n2_ := Aside0.mk (blk_below (g := gb513) (o := .cells #[.int .i64 a0_0, .slice A0_1 l0_1.length c0_1] 28 (0, 0)) (by exact kP BK513.out) hb);have n3_ := Aside0.mk (blk_below (g := gb514) (o := .cells #[.slice (some ad521) l1.length c1] 38 (0, 0)) (by exact kP BK514.out) hb);have n4_ := Aside0.mk (blk_below (g := gb515) (o := .cells #[.bool a2] 4 (0, 0)) (by exact kP BK515.out) hb);have n5_ := Aside0.mk (blk_below (g := gb520) (o := .cells #[.slice Ao26 t517.length co26] 62 (0, 0)) (by exact kP BK520.out) hb);have n6_ := Aside0.mk (blk_below (g := gb522) (o := .cells #[.slice A521_0 (rd_L2 l1 x25_2).length c521_0] 32 (0, 0)) (by exact kP BK522.out) hb);have n7_ := Aside0.mk (below_step (by exact bB) hb);have n8_ := Aside0.mk (hbox);have n9_ := Aside0.mk ((by rw [hg];exact (below_size (by exact bB)) : w.heap.size ≤ gb529));have n10_ := Aside0.mk ((by rw [hg];exact (below_size (by exact bB)) : w.heap.size ≤ gb529));have n11_ := Aside0.mk ((by rw [hg];exact Nat.ne_of_lt (blk_lt (g := gb513) (o := .cells #[.int .i64 a0_0, .slice A0_1 l0_1.length c0_1] 28 (0, 0)) (by exact kP BK513.out)) : gb513 ≠ gb529));have n12_ := Aside0.mk ((by rw [hg];exact Nat.ne_of_gt (blk_lt (g := gb513) (o := .cells #[.int .i64 a0_0, .slice A0_1 l0_1.length c0_1] 28 (0, 0)) (by exact kP BK513.out)) : gb529 ≠ gb513));have n13_ := Aside0.mk ((by rw [hg];exact Nat.ne_of_lt (blk_lt (g := gb514) (o := .cells #[.slice (some ad521) l1.length c1] 38 (0, 0)) (by exact kP BK514.out)) : gb514 ≠ gb529));have n14_ := Aside0.mk ((by rw [hg];exact Nat.ne_of_gt (blk_lt (g := gb514) (o := .cells #[.slice (some ad521) l1.length c1] 38 (0, 0)) (by exact kP BK514.out)) : gb529 ≠ gb514));have n15_ := Aside0.mk ((by rw [hg];exact Nat.ne_of_lt (blk_lt (g := gb515) (o := .cells #[.bool a2] 4 (0, 0)) (by exact kP BK515.out)) : gb515 ≠ gb529));have n16_ := Aside0.mk ((by rw [hg];exact Nat.ne_of_gt (blk_lt (g := gb515) (o := .cells #[.bool a2] 4 (0, 0)) (by exact kP BK515.out)) : gb529 ≠ gb515));have n17_ := Aside0.mk ((by rw [hg];exact Nat.ne_of_lt (blk_lt (g := gb520) (o := .cells #[.slice Ao26 t517.length co26] 62 (0, 0)) (by exact kP BK520.out)) : gb520 ≠ gb529));have n18_ := Aside0.mk ((by rw [hg];exact Nat.ne_of_gt (blk_lt (g := gb520) (o := .cells #[.slice Ao26 t517.length co26] 62 (0, 0)) (by exact kP BK520.out)) : gb529 ≠ gb520));have n19_ := Aside0.mk ((by rw [hg];exact Nat.ne_of_lt (blk_lt (g := gb522) (o := .cells #[.slice A521_0 (rd_L2 l1 x25_2).length c521_0] 32 (0, 0)) (by exact kP BK522.out)) : gb522 ≠ gb529));have n20_ := Aside0.mk ((by rw [hg];exact Nat.ne_of_gt (blk_lt (g := gb522) (o := .cells #[.slice A521_0 (rd_L2 l1 x25_2).length c521_0] 32 (0, 0)) (by exact kP BK522.out)) : gb529 ≠ gb522));clear HO_34;clear HO_521000;clear BK513;clear BK514;clear BK515;clear BK520;clear BK522;clear HB;have HO_34 := n0_;have HO_521000 := n1_;have BK513 := n2_;have BK514 := n3_;have BK515 := n4_;have BK520 := n5_;have BK522 := n6_;have HB := n7_;have BK529 := n8_;have GW529 := n9_;have GE529 := n10_;have NB513_529 := n11_;have NB529_513 := n12_;have NB514_529 := n13_;have NB529_514 := n14_;have NB515_529 := n15_;have NB529_515 := n16_;have NB520_529 := n17_;have NB529_520 := n18_;have NB522_529 := n19_;have NB529_522 := n20_;clear n0_ n1_ n2_ n3_ n4_ n5_ n6_ n7_ n8_ n9_ n10_ n11_ n12_ n13_ n14_ n15_ n16_ n17_ n18_ n19_ n20_;clear hb hbox hg;have hnb78 := NB529_513.out;have hnc78 := NB513_529.out;have hnb79 := NB529_514.out;have hnc79 := NB514_529.out;have hnb80 := NB529_515.out;have hnc80 := NB515_529.out;have hnb81 := NB529_520.out;have hnc81 := NB520_529.out;have hnb82 := NB529_522.out;have hnc82 := NB522_529.out;have hcz83_0 : w77.cell? ⟨gb529, 0, none⟩ = some (.int .i64 0) := (blk_cell BK529.out 0).trans rfl;have hfz83_0 := blk_frozen BK529.out 0;have hnb84 := NB514_513.out;have hnc84 := NB513_514.out;have hnb85 := NB514_515.out;have hnc85 := NB515_514.out;have hnb86 := NB514_520.out;have hnc86 := NB520_514.out;have hnb87 := NB514_522.out;have hnc87 := NB522_514.out;have hcz88_0 : w77.cell? ⟨gb514, 0, none⟩ = some (.slice (some ad521) l1.length c1) := (blk_cell BK514.out 0).trans rfl;have hfz88_0 := blk_frozen BK514.out 0;have hnb89 := NB520_513.out;have hnc89 := NB513_520.out;have hnb90 := NB520_515.out;have hnc90 := NB515_520.out;have hnb91 := NB520_522.out;have hnc91 := NB522_520.out;have hcz92_0 : w77.cell? ⟨gb520, 0, none⟩ = some (.slice Ao26 t517.length co26) := (blk_cell BK520.out 0).trans rfl;have hfz92_0 := blk_frozen BK520.out 0;have hnb93 := NB522_513.out;have hnc93 := NB513_522.out;have hnb94 := NB522_515.out;have hnc94 := NB515_522.out;have hcz95_0 : w77.cell? ⟨gb522, 0, none⟩ = some (.slice A521_0 (rd_L2 l1 x25_2).length c521_0) := (blk_cell BK522.out 0).trans rfl;have hfz95_0 := blk_frozen BK522.out 0;have hnb96 := NB515_513.out;have hnc96 := NB513_515.out;have hcz97_0 : w77.cell? ⟨gb515, 0, none⟩ = some (.bool a2) := (blk_cell BK515.out 0).trans rfl;have hfz97_0 := blk_frozen BK515.out 0) | ((with_reducible refine gate_callee (f := 97) rfl ?_);refine goesL_ (some 42) rfl rfl Tryd.func97 (by kernel_rfl) rfl #[.slice (some ad521) l1.length c1, .func (.func 99) #[] #[.pointer (some ⟨gb529, 0, none⟩), .pointer (some ⟨gb520, 0, none⟩), .pointer (some ⟨gb522, 0, none⟩), .pointer (some ⟨gb515, 0, none⟩)]] rfl mM ?_;(with_reducible refine (impl_valAns.calls gb529 gb520 gb522 gb515 k3 Ao26 co26 t517 _ _ l1 A521_0 c521_0 (rd_L2 l1 x25_2) (rd t525 x36_3) a2 false _ ?sideT ?side1 ?side2 ?side3 ?side4 ?side5 ?side6 A53.out ?sX11 ?sX7 ?sX9 ?sX5).mono ?_);(case sideT => exact tabG_below HT.out (by exact bB));(case sX11 => refine kP ?_;refine blk_put (cs := #[.int .i64 0]) ?_ 0 _ rfl;exact kP BK529.out);(case sX7 => refine kP ?_;refine blk_far ?_ NB520_529.out _;exact kP BK520.out);(case sX9 => refine kP ?_;refine blk_far ?_ NB522_529.out _;exact kP BK522.out);(case sX5 => refine kP ?_;refine blk_far ?_ NB515_529.out _;exact kP BK515.out);(case side1 => refine (Kd.R_reads' (e := 3) (base := w.heap.size) (ok := fun k_ => some k_ ≠ (.slice (some ad528) t525.length co49 : Value).ownBlock) (n := t517.length) (c := co26) ?_).2.2;exact (by refine rP ?_;exact (Kd.R_mono (Kd.R_far (p := ⟨gb529, 0, none⟩) HO_521000.out (fun _ hk => hk.2) (.int .i64 (rd t525 x36_3))) (fun _ h_ => h_.1))));(case side2 => exact (Kd.R_reads' HO_521000.out).2.1);(case side3 => exact Kd.C_below HR1.out (by exact bB));(case side4 => exact HC1.out);(case side5 => exact Kd.C_below HR521_0.out (by exact bB));(case side6 => exact HC521_0.out);rintro e w98 ⟨rfl, hb⟩;refine ⟨_, rfl, ?_⟩;have n0_ := Aside0.mk (Kd.R_below (by exact rP ((Kd.R_mono (Kd.R_far (p := ⟨gb529, 0, none⟩) HO_34.out (fun _ hk => hk.2) (.int .i64 (rd t525 x36_3))) (fun _ h_ => h_.1)))) hb);have n1_ := Aside0.mk (Kd.R_below (by exact rP ((Kd.R_mono (Kd.R_far (p := ⟨gb529, 0, none⟩) HO_521000.out (fun _ hk => hk.2) (.int .i64 (rd t525 x36_3))) (fun _ h_ => h_.1)))) hb);have n2_ := Aside0.mk (blk_below (g := gb513) (o := .cells #[.int .i64 a0_0, .slice A0_1 l0_1.length c0_1] 28 (0, 0)) (by refine kP ?_;refine blk_far ?_ NB513_529.out _;exact kP BK513.out) hb);have n3_ := Aside0.mk (blk_below (g := gb514) (o := .cells #[.slice (some ad521) l1.length c1] 38 (0, 0)) (by refine kP ?_;refine blk_far ?_ NB514_529.out _;exact kP BK514.out) hb);have n4_ := Aside0.mk (blk_below (g := gb515) (o := .cells #[.bool a2] 4 (0, 0)) (by refine kP ?_;refine blk_far ?_ NB515_529.out _;exact kP BK515.out) hb);have n5_ := Aside0.mk (blk_below (g := gb520) (o := .cells #[.slice Ao26 t517.length co26] 62 (0, 0)) (by refine kP ?_;refine blk_far ?_ NB520_529.out _;exact kP BK520.out) hb);have n6_ := Aside0.mk (blk_below (g := gb522) (o := .cells #[.slice A521_0 (rd_L2 l1 x25_2).length c521_0] 32 (0, 0)) (by refine kP ?_;refine blk_far ?_ NB522_529.out _;exact kP BK522.out) hb);have n7_ := Aside0.mk (blk_below (g := gb529) (o := .cells #[.int .i64 (rd t525 x36_3)] 3 (0, 0)) (by refine kP ?_;refine blk_put (cs := #[.int .i64 0]) ?_ 0 _ rfl;exact kP BK529.out) hb);have n8_ := Aside0.mk (below_step (by exact bB) hb);clear HO_34;clear HO_521000;clear BK513;clear BK514;clear BK515;clear BK520;clear BK522;clear BK529;clear HB;have HO_34 := n0_;have HO_521000 := n1_;have BK513 := n2_;have BK514 := n3_;have BK515 := n4_;have BK520 := n5_;have BK522 := n6_;have BK529 := n7_;have HB := n8_;clear n0_ n1_ n2_ n3_ n4_ n5_ n6_ n7_ n8_;(try clear hb);(try clear hb2);(try clear hk);(try clear hi)))
               go_ret
               exact ⟨by first | rfl | (simp [errW_none, errW_some] <;> rfl) | (simp [*, errW_none, errW_some] <;> rfl), by exact bB⟩
             ·rw [if_neg c52] at H
              exact absurd H (by simp)
            ·rw [if_neg c51] at H
             exact absurd H (by simp)
           ·rw [if_neg c50] at H
            have c50b0 : decide (x36_3 < (t525.length : Int)) = false := decide_eq_false c50
            clear c50
            have H' := Aside0.mk H
            clear H
            go_wp2
            go_roundg k3
            case measure => have := HJ3.out;have := HK2.out;have := HK3.out;omega
            case rel => exact ⟨(wrap64 (x25_2 + 1)), (by first | rfl | (simp;done) | (simp [*];done)), H', ⟨by have := HJ3.out;have := HK2.out;have := HK3.out;omega⟩, ⟨by refine rP ?_;exact Kd.R_mono HO_521000.out (fun _ hk => trivial)⟩, ⟨by exact kP BK513.out⟩, ⟨by exact kP BK514.out⟩, ⟨by exact kP BK515.out⟩, ⟨by exact kP BK520.out⟩, ⟨by exact bB⟩⟩
        ·rw [if_neg c35] at H
         exact absurd H (by simp)
       ·rw [if_neg c34] at H
        exact absurd H (by simp)
      ·rw [if_neg c33] at H
       have c33b0 : decide (x25_2 < (l1.length : Int)) = false := decide_eq_false c33
       clear c33
       obtain rfl := Option.some.inj H
       go_wp2
       go_ret
       exact ⟨by first | rfl | (simp [errW_none, errW_some] <;> rfl) | (simp [*, errW_none, errW_some] <;> rfl), by exact bB⟩


end Go.Proofs.YthbjajppdomhhaaDoor.QIsEternalFamily
