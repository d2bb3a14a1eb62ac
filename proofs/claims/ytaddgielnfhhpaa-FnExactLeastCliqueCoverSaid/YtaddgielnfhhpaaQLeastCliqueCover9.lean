import Derived.Test.YtaddgielnfhhpaaQLeastCliqueCover0
import Derived.Test.YtaddgielnfhhpaaQLeastCliqueCover7
import Derived.Test.YtaddgielnfhhpaaQLeastCliqueCover8
namespace Go.Proofs.Ytaddgielnfhhpaa.QLeastCliqueCover
open Go.RowKit Go.Proofs.YtaddgielnfhhpaaW.PrintWords Go.Proofs.YtaddgielnfhhpaaW.PrintLast Go.Proofs.YtaddgielnfhhpaaW.PrintMore
attribute [local go_sem] max2_int min2_int max_two min_two max_three min_three max_four min_four   -- for this text's walks alone
set_option linter.unusedVariables false
set_option linter.unusedSimpArgs false
/-! ### impl_net_coverBy: function 45 -/
mutual
def impl_net_coverBy.l0 : Nat → Int → Int → List Int → Int → Int → List Int → Option (List Int × Bool)
 | 0, _, _, _, _, _, _ => none
 | k + 1, x1, x2, x3, x23, x24, x218000 => if x24 < x23 then ((slices_Clone_int_int.f x3).bind fun t219 => (if x24 = (t219.length : Int) then (if t219.length < 17592186044416 then (impl_net_coverBy.j1 k x1 x2 x3 x24 (t219 ++ [0]) x23 x24 x218000) else (none)) else (impl_net_coverBy.j1 k x1 x2 x3 x24 t219 x23 x24 x218000))) else (some (([] : List Int), false))
def impl_net_coverBy.j1 : Nat → Int → Int → List Int → Int → List Int → Int → Int → List Int → Option (List Int × Bool)
 | 0, _, _, _, _, _, _, _, _ => none
 | k + 1, x1, x2, x3, x10, x11, x23, x24, x218000 => if 0 ≤ x10 then (if x10 < (x11.length : Int) then (if 0 ≤ x2 then ((some (x11.set (x10 : Int).toNat (Go.bits .or .i64 (rd x11 x10) (shl .i64 1 x2)) : List Int)).bind fun y226 => ((impl_net_isClique.f k x218000 (rd y226 x10)).bind fun t228 => (if t228 = true then ((impl_net_coverBy.f k x218000 x1 (wrap64 (x2 + 1)) y226).bind fun bt229 => (if bt229.2 = true then (some (bt229.1, true)) else (impl_net_coverBy.l0 k x1 x2 x3 x23 (wrap64 (x24 + 1)) x218000))) else (impl_net_coverBy.l0 k x1 x2 x3 x23 (wrap64 (x24 + 1)) x218000)))) else (none)) else (none)) else (none)
def impl_net_coverBy.f : Nat → List Int → Int → Int → List Int → Option (List Int × Bool)
 | 0, _, _, _, _ => none
 | k + 1, l0_0, a1, a2, l3 => (impl_net_size.f l0_0).bind fun t218 => (if a2 = t218 then (some (l3, true)) else (impl_net_coverBy.l0 k a1 a2 l3 (mn a1 (wrap64 ((l3.length : Int) + 1))) 0 l0_0))
end
theorem impl_net_coverBy.mono_l : ∀ k, (∀ y0 y1 y2 y3, LeO (impl_net_coverBy.f k y0 y1 y2 y3) (impl_net_coverBy.f (k + 1) y0 y1 y2 y3)) ∧ (∀ y0 y1 y2 y3 y4 y5, LeO (impl_net_coverBy.l0 k y0 y1 y2 y3 y4 y5) (impl_net_coverBy.l0 (k + 1) y0 y1 y2 y3 y4 y5)) ∧ (∀ y0 y1 y2 y3 y4 y5 y6 y7, LeO (impl_net_coverBy.j1 k y0 y1 y2 y3 y4 y5 y6 y7) (impl_net_coverBy.j1 (k + 1) y0 y1 y2 y3 y4 y5 y6 y7))
 | 0 => ⟨fun _ _ _ _ r h => by simp [impl_net_coverBy.f] at h, fun _ _ _ _ _ _ r h => by simp [impl_net_coverBy.l0] at h, fun _ _ _ _ _ _ _ _ r h => by simp [impl_net_coverBy.j1] at h⟩
 | k + 1 => by
  obtain ⟨ih0, ih1, ih2⟩ := impl_net_coverBy.mono_l k
  refine ⟨?_, ?_, ?_⟩
  ·intro y0 y1 y2 y3
   unfold impl_net_coverBy.f
   repeat' first
   | (with_reducible exact ih0 _ _ _ _)
   | (with_reducible exact ih1 _ _ _ _ _ _)
   | (with_reducible exact ih2 _ _ _ _ _ _ _ _)
   | (with_reducible exact impl_net_isClique.mono _ _ _)
   | (with_reducible exact LeO.refl _)
   | (with_reducible exact LeO.none _)
   | (with_reducible refine LeO.ite ?_ ?_)
   | (with_reducible refine LeO.bind ?_ (fun _ => ?_))
   | exact ih0 _ _ _ _
   | exact ih1 _ _ _ _ _ _
   | exact ih2 _ _ _ _ _ _ _ _
   | exact impl_net_isClique.mono _ _ _
   | exact LeO.none _
   | refine LeO.ite ?_ ?_
   | refine LeO.bind ?_ (fun _ => ?_)
  ·intro y0 y1 y2 y3 y4 y5
   unfold impl_net_coverBy.l0
   repeat' first
   | (with_reducible exact ih0 _ _ _ _)
   | (with_reducible exact ih1 _ _ _ _ _ _)
   | (with_reducible exact ih2 _ _ _ _ _ _ _ _)
   | (with_reducible exact impl_net_isClique.mono _ _ _)
   | (with_reducible exact LeO.refl _)
   | (with_reducible exact LeO.none _)
   | (with_reducible refine LeO.ite ?_ ?_)
   | (with_reducible refine LeO.bind ?_ (fun _ => ?_))
   | exact ih0 _ _ _ _
   | exact ih1 _ _ _ _ _ _
   | exact ih2 _ _ _ _ _ _ _ _
   | exact impl_net_isClique.mono _ _ _
   | exact LeO.none _
   | refine LeO.ite ?_ ?_
   | refine LeO.bind ?_ (fun _ => ?_)
  ·intro y0 y1 y2 y3 y4 y5 y6 y7
   unfold impl_net_coverBy.j1
   repeat' first
   | (with_reducible exact ih0 _ _ _ _)
   | (with_reducible exact ih1 _ _ _ _ _ _)
   | (with_reducible exact ih2 _ _ _ _ _ _ _ _)
   | (with_reducible exact impl_net_isClique.mono _ _ _)
   | (with_reducible exact LeO.refl _)
   | (with_reducible exact LeO.none _)
   | (with_reducible refine LeO.ite ?_ ?_)
   | (with_reducible refine LeO.bind ?_ (fun _ => ?_))
   | exact ih0 _ _ _ _
   | exact ih1 _ _ _ _ _ _
   | exact ih2 _ _ _ _ _ _ _ _
   | exact impl_net_isClique.mono _ _ _
   | exact LeO.none _
   | refine LeO.ite ?_ ?_
   | refine LeO.bind ?_ (fun _ => ?_)
theorem impl_net_coverBy.mono : ∀ a0 a1 a2 a3 k, LeO (impl_net_coverBy.f k a0 a1 a2 a3) (impl_net_coverBy.f (k + 1) a0 a1 a2 a3) := by
 intro a0 a1 a2 a3 k
 obtain ⟨ih0, ih1, ih2⟩ := impl_net_coverBy.mono_l k
 exact ih0 a0 a1 a2 a3
def impl_net_coverBy.T9 : Bool × List (List Nat × List Nat) := (true, [([], []), ([], []), ([0, 1], [0, 1]), ([2], [2]), ([], []), ([4], [4]), ([3, 5], [3, 5]), ([0, 1, 0, 1, 2, 3, 4, 5, 6], [0, 1]), ([7, 6, 0, 1, 2, 3, 4, 5, 6], [6, 7])])
def impl_net_coverBy.B9 : List Nat := [0, 0, 3, 7, 0, 16, 63, 127, 255]
theorem impl_net_coverBy.tab9 : rtab .any (opsOf Try.f45 9) = impl_net_coverBy.T9 := by kernel_rfl
theorem impl_net_coverBy.bits9 : waitsOk impl_net_coverBy.T9.2 impl_net_coverBy.B9 = true := by kernel_rfl
set_option maxHeartbeats 8000000 in
set_option maxRecDepth 100000 in
theorem impl_net_coverBy.calls (k : Nat) : ∀ (A0_0 : Option Addr) (c0_0 : Nat) (l0_0 : List Int) (a1 : Int) (a2 : Int) (P3_ : Nat → Prop) (u9000_ : Value) (l3 : List Int) (r1 : List Int) (r2 : Bool) (w0 w : World) (hB : Below w0.heap.size w0 w) (hr0_0 : ∀ W_, Kept w W_ (fun k_ => P3_ k_) → Kd.C (Kd.int .i64) W_ A0_0 l0_0.length l0_0) (hc0_0 : l0_0.length ≤ c0_0) (ho3 : Kd.R (Kd.int .i64) 3 w w0.heap.size P3_ u9000_ l3) (h : impl_net_coverBy.f k l0_0 a1 a2 l3 = some (r1, r2)),
  Calls Try.prog 45 #[.agg #[.slice A0_0 l0_0.length c0_0], .int .i64 a1, .int .i64 a2, u9000_] w fun e w' => ∃ v0_ : Value, e = .returned (.tuple #[v0_, .bool r2]) ∧ Kd.R (Kd.int .i64) 3 w' w0.heap.size (fun k_ => (P3_ k_ ∨ w.heap.size ≤ k_)) v0_ r1 ∧ Below w0.heap.size w0 w' ∧ Kept w w' (fun k_ => P3_ k_) := by
 induction k using Nat.strongRecOn with
 | _ k ih =>
 intro A0_0 c0_0 l0_0 a1 a2 P3_ u9000_ l3 r1 r2 w0 w hB hr0_0 hc0_0 ho3 h
 cases k with
 | zero => exact absurd h (by simp [impl_net_coverBy.f])
 | succ k =>
 simp only [impl_net_coverBy.f] at h
 have hu56 := Try.underlying56
 have HR0_0 := Aside0.mk hr0_0
 have HC0_0 := Aside0.mk hc0_0
 clear hr0_0 hc0_0
 have HO3 := Aside0.mk (show Kd.R (Kd.int .i64) 3 w w0.heap.size (fun k_ => (P3_ k_ ∨ w.heap.size ≤ k_)) u9000_ l3 from Kd.R_mono ho3 (fun k_ hk => (.inl hk)))
 have HK := Aside0.mk (Kept.refl w (fun k_ => P3_ k_))
 have HW0 := Aside0.mk hB.size
 have HB := Aside0.mk hB
 clear hB
 have H : ((impl_net_size.f l0_0).bind fun t218 => (if a2 = t218 then (some (l3, true)) else (impl_net_coverBy.l0 k a1 a2 l3 (mn a1 (wrap64 ((l3.length : Int) + 1))) 0 l0_0))) = some (r1, r2) := h
 clear h
 replace H := Option.bind_eq_some_iff.mp H
 obtain ⟨t218, A50, H⟩ := H
 replace H : (if a2 = t218 then (some (l3, true)) else (impl_net_coverBy.l0 k a1 a2 l3 (mn a1 (wrap64 ((l3.length : Int) + 1))) 0 l0_0)) = some (r1, r2) := H
 have A5 := Aside0.mk A50
 clear A50
 by_cases c6 : a2 = t218
 ·rw [if_pos c6] at H
  have c6b0 : (a2 == t218) = true := beq_iff_eq.mpr c6
  have c6b1 : (a2 != t218) = false := bne_eq_false_iff_eq.mpr c6
  clear c6
  simp only [Option.some.injEq, Prod.mk.injEq] at H
  obtain ⟨rfl, rfl⟩ := H
  go_enter Try.func45, Try.ntmps45
  go_wp2_with (first | ((with_reducible refine gate_dst (N := 4) rfl ?_);refine box_event ?hg (N := 4) ?hd (cs := #[.slice A0_0 l0_0.length c0_0]) (t := 56) ?hr ?_;(case hd => rfl);(case hg => rfl);(case hr => first | (go_simp;done) | (go_simp;rfl));intro gb217 hg w7 hbox hb;have n0_ := Aside0.mk (Kd.R_below (by exact rP HO3.out) hb);have n1_ := Aside0.mk (Kept.below (S := (fun k_ => P3_ k_)) (by exact kE) hb);have n2_ := Aside0.mk (below_step (by exact bB) hb);have n3_ := Aside0.mk (hbox);have n4_ := Aside0.mk ((by rw [hg];exact (by first | exact HK.out.1 | exact (show Kept w _ (fun k_ => P3_ k_) from by exact kE).1) : w.heap.size ≤ gb217));have n5_ := Aside0.mk ((by rw [hg];exact (below_size (by exact bB)) : w0.heap.size ≤ gb217));clear HO3;clear HK;clear HB;have HO3 := n0_;have HK := n1_;have HB := n2_;have BK217 := n3_;have GW217 := n4_;have GE217 := n5_;clear n0_ n1_ n2_ n3_ n4_ n5_;clear hb hbox hg;have hcz8_0 : w7.cell? ⟨gb217, 0, none⟩ = some (.slice A0_0 l0_0.length c0_0) := (blk_cell BK217.out 0).trans rfl;have hfz8_0 := blk_frozen BK217.out 0) | ((with_reducible refine gate_callee (f := 67) rfl ?_);refine goesL_ (some 16) rfl rfl Try.func67 (by kernel_rfl) rfl #[.agg #[.slice A0_0 l0_0.length c0_0]] rfl mM ?_;(with_reducible refine (impl_net_size.calls _ _ l0_0 t218 _ ?side1 ?side2 A5.out).mono ?_);(case side1 => exact Kd.C_kept_now HR0_0.out (by exact kE));(case side2 => exact HC0_0.out);rintro e w9 ⟨rfl, hb⟩;refine ⟨_, rfl, ?_⟩;have n0_ := Aside0.mk (Kd.R_below (by exact rP HO3.out) hb);have n1_ := Aside0.mk (blk_below (g := gb217) (o := .cells #[.slice A0_0 l0_0.length c0_0] 56 (0, 0)) (by exact kP BK217.out) hb);have n2_ := Aside0.mk (Kept.below (S := (fun k_ => P3_ k_)) (by exact kE) hb);have n3_ := Aside0.mk (below_step (by exact bB) hb);clear HO3;clear BK217;clear HK;clear HB;have HO3 := n0_;have BK217 := n1_;have HK := n2_;have HB := n3_;clear n0_ n1_ n2_ n3_;(try clear hb);(try clear hb2);(try clear hk);(try clear hi)))
  go_ret2
  exact ⟨_, by first | rfl | (simp [errW_none, errW_some] <;> rfl) | (simp [*, errW_none, errW_some] <;> rfl), by exact rP HO3.out, by exact bB, by exact kE⟩
 ·rw [if_neg c6] at H
  have c6b0 : (a2 == t218) = false := beq_eq_false_iff_ne.mpr c6
  have c6b1 : (a2 != t218) = true := bne_iff_ne.mpr c6
  obtain ⟨ji10, hji10⟩ : ∃ j_ : Int, (mn a1 (wrap64 ((l3.length : Int) + 1))) = j_ := ⟨_, rfl⟩
  replace H : (impl_net_coverBy.l0 k a1 a2 l3 ji10 0 l0_0) = some (r1, r2) := by first | (rw [hji10] at H;exact H) | (simp only [hji10] at H ⊢;exact H)
  (try rw [hji10] at A5)
  have hji10_ : (if (wrap64 ((l3.length : Int) + 1)) < a1 then (wrap64 ((l3.length : Int) + 1)) else a1) = ji10 := hji10
  have H' := Aside0.mk H
  clear H
  go_enter Try.func45, Try.ntmps45
  go_wp2_with (first | ((with_reducible refine gate_dst (N := 4) rfl ?_);refine box_event ?hg (N := 4) ?hd (cs := #[.slice A0_0 l0_0.length c0_0]) (t := 56) ?hr ?_;(case hd => rfl);(case hg => rfl);(case hr => first | (go_simp;done) | (go_simp;rfl));intro gb217 hg w11 hbox hb;have n0_ := Aside0.mk (Kd.R_below (by exact rP HO3.out) hb);have n1_ := Aside0.mk (Kept.below (S := (fun k_ => P3_ k_)) (by exact kE) hb);have n2_ := Aside0.mk (below_step (by exact bB) hb);have n3_ := Aside0.mk (hbox);have n4_ := Aside0.mk ((by rw [hg];exact (by first | exact HK.out.1 | exact (show Kept w _ (fun k_ => P3_ k_) from by exact kE).1) : w.heap.size ≤ gb217));have n5_ := Aside0.mk ((by rw [hg];exact (below_size (by exact bB)) : w0.heap.size ≤ gb217));clear HO3;clear HK;clear HB;have HO3 := n0_;have HK := n1_;have HB := n2_;have BK217 := n3_;have GW217 := n4_;have GE217 := n5_;clear n0_ n1_ n2_ n3_ n4_ n5_;clear hb hbox hg;have hcz12_0 : w11.cell? ⟨gb217, 0, none⟩ = some (.slice A0_0 l0_0.length c0_0) := (blk_cell BK217.out 0).trans rfl;have hfz12_0 := blk_frozen BK217.out 0) | ((with_reducible refine gate_callee (f := 67) rfl ?_);refine goesL_ (some 16) rfl rfl Try.func67 (by kernel_rfl) rfl #[.agg #[.slice A0_0 l0_0.length c0_0]] rfl mM ?_;(with_reducible refine (impl_net_size.calls _ _ l0_0 t218 _ ?side1 ?side2 A5.out).mono ?_);(case side1 => exact Kd.C_kept_now HR0_0.out (by exact kE));(case side2 => exact HC0_0.out);rintro e w13 ⟨rfl, hb⟩;refine ⟨_, rfl, ?_⟩;have n0_ := Aside0.mk (Kd.R_below (by exact rP HO3.out) hb);have n1_ := Aside0.mk (blk_below (g := gb217) (o := .cells #[.slice A0_0 l0_0.length c0_0] 56 (0, 0)) (by exact kP BK217.out) hb);have n2_ := Aside0.mk (Kept.below (S := (fun k_ => P3_ k_)) (by exact kE) hb);have n3_ := Aside0.mk (below_step (by exact bB) hb);clear HO3;clear BK217;clear HK;clear HB;have HO3 := n0_;have BK217 := n1_;have HK := n2_;have HB := n3_;clear n0_ n1_ n2_ n3_;(try clear hb);(try clear hb2);(try clear hk);(try clear hi);obtain ⟨Ao14, co14, eo14⟩ := Kd.R_slice HO3.out;subst eo14))
  go_loopg [24] k (fun kq v24 w' => ∃ (x3_1 : List Int) (x24_1 : Int), v24 = .int .i64 x24_1 ∧ Aside0 (impl_net_coverBy.l0 kq a1 a2 x3_1 ji10 x24_1 l0_0 = some (r1, r2)) ∧ Aside0 (kq ≤ k) ∧ Aside0 (Kd.R (Kd.int .i64) 3 w' w0.heap.size (fun k_ => (P3_ k_ ∨ w.heap.size ≤ k_)) (.slice Ao14 l3.length co14) x3_1) ∧ Aside0 (w'.heap[gb217]? = some (.cells #[(.slice A0_0 l0_0.length c0_0)] 56 (0, 0))) ∧ Aside0 (Kept w w' (fun k_ => P3_ k_)) ∧ Aside0 (Below w0.heap.size w0 w'))
  case atStart => exact ⟨(l3), (0), (by first | rfl | (simp;done) | (simp [*];done)), H', ⟨Nat.le_refl _⟩, ⟨by exact rP HO3.out⟩, ⟨by exact kP BK217.out⟩, ⟨by exact kE⟩, ⟨by exact bB⟩⟩
  case round =>
   clear H'
   try clear p2
   try clear c4
   try clear c6
   try clear c6b0
   try clear c6b1
   try clear p6
   try clear hcz12_0
   try clear hcz8_0
   try clear hfz12_0
   try clear hfz8_0
   obtain ⟨x3_1, x24_1, rfl, HA, HK1, HO_3, BK217, HK, HB⟩ := hrel
   have hl3_1 := (Kd.R_reads' HO_3.out).1
   rw [hl3_1] at HO_3
   (try simp only [hl3_1])
   (try simp only [hl3_1] at BK217)
   cases gk with
   | zero => exact absurd HA.out (by simp [impl_net_coverBy.l0])
   | succ k1 =>
    have H := HA.out
    clear HA
    simp only [impl_net_coverBy.l0] at H
    by_cases c15 : x24_1 < ji10
    ·rw [if_pos c15] at H
     have c15b0 : decide (x24_1 < ji10) = true := decide_eq_true c15
     clear c15
     replace H := Option.bind_eq_some_iff.mp H
     obtain ⟨t219, A160, H⟩ := H
     replace H : (if x24_1 = (t219.length : Int) then (if t219.length < 17592186044416 then (impl_net_coverBy.j1 k1 a1 a2 x3_1 x24_1 (t219 ++ [0]) ji10 x24_1 l0_0) else (none)) else (impl_net_coverBy.j1 k1 a1 a2 x3_1 x24_1 t219 ji10 x24_1 l0_0)) = some (r1, r2) := H
     have A16 := Aside0.mk A160
     clear A160
     have HC17 := Aside0.mk H
     clear H
     go_upto_if 32 with (first | ((with_reducible refine gate_callee (f := 76) rfl ?_);refine goesL_ (some 28) rfl rfl Try.func76 (by kernel_rfl) rfl #[.slice Ao14 x3_1.length co14] rfl mM ?_;(with_reducible refine (slices_Clone_int_int.calls _ _ x3_1 t219 _ ?side1 ?side2 A16.out).mono ?_);(case side1 => exact cP (Kd.R_reads' HO_3.out).2.2);(case side2 => exact (Kd.R_reads' HO_3.out).2.1);rintro e w18 ⟨v220, rfl, ho0, hb⟩;refine ⟨_, rfl, ?_⟩;have n0_ := Aside0.mk (Kd.R_elder' (by exact rP HO_3.out) (Kd.R_base ho0) hb);have n1_ := Aside0.mk (Kd.R_lower (Kd.R_new' (Kd.R_newM (M := fun k_ => (P3_ k_ ∨ w.heap.size ≤ k_)) ho0 (by first | exact HK.out.1 | exact (show Kept w _ (fun k_ => P3_ k_) from by exact kE).1) (fun k_ h_ => .inr h_)) (Kd.R_lt (by exact rP HO_3.out))) (below_size (by exact bB)));have n2_ := Aside0.mk (blk_below (g := gb217) (o := .cells #[.slice A0_0 l0_0.length c0_0] 56 (0, 0)) (by exact kP BK217.out) hb);have n3_ := Aside0.mk (Kept.below (S := (fun k_ => P3_ k_)) (by exact kE) hb);have n4_ := Aside0.mk (below_step (by exact bB) hb);clear HO_3;clear BK217;clear HK;clear HB;have HO_3 := n0_;have HO221 := n1_;have BK217 := n2_;have HK := n3_;have HB := n4_;clear n0_ n1_ n2_ n3_ n4_;(try clear hb);(try clear hb2);(try clear hk);(try clear hi);(try clear ho0);obtain ⟨Ao19, co19, eo19⟩ := Kd.R_slice HO221.out;subst eo19))
     (try simp only [Act.put, List.setIfInBounds_toArray, List.set_cons_zero, List.set_cons_succ])
     go_cut [11] (fun v11 wc => ∃ (kq : Nat) (x11_16 : List Int), Aside0 (impl_net_coverBy.j1 kq a1 a2 x3_1 x24_1 x11_16 ji10 x24_1 l0_0 = some (r1, r2)) ∧ Aside0 (kq ≤ k1) ∧ Aside0 (Kd.R (Kd.int .i64) 3 wc w0.heap.size (fun k_ => (P3_ k_ ∨ w.heap.size ≤ k_) ∧ some k_ ≠ (v11 : Value).ownBlock) (.slice Ao14 x3_1.length co14) x3_1) ∧ Aside0 (Kd.R (Kd.int .i64) 3 wc w0.heap.size (fun k_ => (P3_ k_ ∨ w.heap.size ≤ k_) ∧ some k_ ≠ ((.slice Ao14 x3_1.length co14) : Value).ownBlock) v11 x11_16) ∧ Aside0 (wc.heap[gb217]? = some (.cells #[(.slice A0_0 l0_0.length c0_0)] 56 (0, 0))) ∧ Aside0 (Kept w wc (fun k_ => P3_ k_)) ∧ Aside0 (Below w0.heap.size w0 wc))
     case first =>
      have H := HC17.out
      clear HC17
      by_cases c20 : x24_1 = (t219.length : Int)
      ·rw [if_pos c20] at H
       have c20b0 : (x24_1 == (t219.length : Int)) = true := beq_iff_eq.mpr c20
       have c20b1 : (x24_1 != (t219.length : Int)) = false := bne_eq_false_iff_eq.mpr c20
       clear c20
       (first | rw [c20b0] | (simp only [i64_w, i32_w];rw [c20b0]) | skip)
       by_cases c21 : t219.length < 17592186044416
       ·rw [if_pos c21] at H
        have LMc21 := Aside0.mk c21
        clear c21
        obtain ⟨y222, hy222⟩ : ∃ y_ : List Int, y_ = (t219 ++ [0]) := ⟨_, rfl⟩
        replace H : (impl_net_coverBy.j1 k1 a1 a2 x3_1 x24_1 y222 ji10 x24_1 l0_0) = some (r1, r2) := by first | (rw [hy222];with_reducible exact H) | (have H2_ := (Option.bind_some _ _).symm.trans H;rw [hy222];with_reducible exact H2_) | (have H2_ := (Option.bind_some _ _).symm.trans H;with_reducible exact H2_) | with_reducible exact H | (rw [hy222];exact H) | exact H
        have Ny222 := Aside0.mk hy222
        clear hy222
        have H' := Aside0.mk H
        clear H
        go_wp2_with (first | ((with_reducible refine gate_builtin (b := .append) (xs := #[.tmp 33, .tmp 34]) rfl ?_);at_builtin;refine Kd.R_append (Kd.int .i64) (w0 := w0) w0.heap.size rfl (.tmp 33) (.tmp 34) 25 3 (.int .i64 0) 8 rfl Try.underlying25 info3 rfl (by decide) (by omega) (.slice Ao19 t219.length co19) t219 0 [.int .i64 0] (fun k_ => (P3_ k_ ∨ w.heap.size ≤ k_) ∧ some k_ ≠ (.slice Ao14 x3_1.length co14 : Value).ownBlock) (fun _ => False) rfl rfl ?aP (fun _ hk => hk.elim) ?aF ?aO ?aB ?aS ?aL ?_;(case aP => exact rfl);(case aB => exact (by exact bB));(case aF => exact (fun k_ hk => ⟨(.inr (Nat.le_trans (by first | exact HK.out.1 | exact (show Kept w _ (fun k_ => P3_ k_) from by exact kE).1) hk)), Kd.fresh' (Kd.R_lt (by exact rP HO_3.out)) k_ hk⟩));(case aO => exact (by refine rP ?_;exact Kd.R_mono HO221.out (fun _ hk => ⟨hk.1.1, hk.2⟩)));(case aS => exact (below_size (by exact bB)));(case aL => have := LMc21.out;omega);intro v223 w22 ho hb hg hat;rw [← Ny222.out] at ho;have n0_ := Aside0.mk (Kd.R_after (ok := (fun k_ => (P3_ k_ ∨ w.heap.size ≤ k_))) (by exact rP HO_3.out) hg hat);have n1_ := Aside0.mk (blk_grown (g := gb217) (o := .cells #[.slice A0_0 l0_0.length c0_0] 56 (0, 0)) (by exact kP BK217.out) hg (Kd.R_ne HO221.out BK217.out (by decide)));have n2_ := Aside0.mk (hb);have n3_ := Aside0.mk (Kept.of_grown (S := (fun k_ => P3_ k_)) hg (by exact kE) (fun k_ e_ => (HO221.out.1 k_ e_).1.1));have n4_ := Aside0.mk (ho);clear HO_3;clear BK217;clear HB;clear HK;clear HO221;have HO_3 := n0_;have BK217 := n1_;have HB := n2_;have HK := n3_;have HO224 := n4_;clear n0_ n1_ n2_ n3_ n4_;clear ho hb hg hat))
        go_meet
        case rel => exact ⟨_, (y222), H', ⟨by have := HK1.out;first | omega | exact Nat.le_refl _⟩, ⟨by (try simp only [hl3_1]);exact rP HO_3.out⟩, ⟨by (try simp only [hl3_1]);exact rP HO224.out⟩, ⟨by (try simp only [hl3_1]);exact kP BK217.out⟩, ⟨by exact kE⟩, ⟨by exact bB⟩⟩
       ·rw [if_neg c21] at H
        exact absurd H (by simp)
      ·rw [if_neg c20] at H
       have c20b0 : (x24_1 == (t219.length : Int)) = false := beq_eq_false_iff_ne.mpr c20
       have c20b1 : (x24_1 != (t219.length : Int)) = true := bne_iff_ne.mpr c20
       (first | rw [c20b0] | (simp only [i64_w, i32_w];rw [c20b0]) | skip)
       have H' := Aside0.mk H
       clear H
       go_wp2
       go_meet
       case rel => exact ⟨_, (t219), H', ⟨by have := HK1.out;first | omega | exact Nat.le_refl _⟩, ⟨by (try simp only [hl3_1]);exact rP HO_3.out⟩, ⟨by (try simp only [hl3_1]);refine rP ?_;exact Kd.R_mono HO221.out (fun _ hk => ⟨hk.1.1, hk.2⟩)⟩, ⟨by (try simp only [hl3_1]);exact kP BK217.out⟩, ⟨by exact kE⟩, ⟨by exact bB⟩⟩
     case rest =>
      clear HC17
      try clear c1
      try clear c2
      try clear p2
      try clear c4
      try clear c6
      try clear c6b0
      try clear c6b1
      try clear p6
      try clear c7
      try clear c15
      try clear c15b0
      try clear c20
      try clear c20b0
      try clear c20b1
      try clear c21
      try clear hcz12_0
      try clear hcz8_0
      try clear hfz12_0
      try clear hfz8_0
      try clear p2
      try clear p6
      obtain ⟨kq, x11_16, HA, HJ16, HO_3, HO_11, BK217, HK, HB⟩ := hcut
      cases kq with
      | zero => exact absurd HA.out (by simp [impl_net_coverBy.j1])
      | succ kj16 =>
       have H := HA.out
       clear HA
       simp only [impl_net_coverBy.j1] at H
       by_cases c23 : 0 ≤ x24_1
       ·rw [if_pos c23] at H
        have c23b0 : decide (0 ≤ x24_1) = true := decide_eq_true c23
        clear c23
        by_cases c24 : x24_1 < (x11_16.length : Int)
        ·rw [if_pos c24] at H
         have c24b0 : decide (x24_1 < (x11_16.length : Int)) = true := decide_eq_true c24
         clear c24
         by_cases c25 : 0 ≤ a2
         ·rw [if_pos c25] at H
          have c25b0 := eq_true c25
          have c25b1 : decide (0 ≤ a2) = true := decide_eq_true c25
          clear c25
          obtain ⟨ji26, hji26⟩ : ∃ j_ : Int, (shl .i64 1 a2) = j_ := ⟨_, rfl⟩
          replace H : ((some (x11_16.set (x24_1 : Int).toNat (Go.bits .or .i64 (rd x11_16 x24_1) (ji26)) : List Int)).bind fun y226 => ((impl_net_isClique.f kj16 l0_0 (rd y226 x24_1)).bind fun t228 => (if t228 = true then ((impl_net_coverBy.f kj16 l0_0 a1 (wrap64 (a2 + 1)) y226).bind fun bt229 => (if bt229.2 = true then (some (bt229.1, true)) else (impl_net_coverBy.l0 kj16 a1 a2 x3_1 ji10 (wrap64 (x24_1 + 1)) l0_0))) else (impl_net_coverBy.l0 kj16 a1 a2 x3_1 ji10 (wrap64 (x24_1 + 1)) l0_0)))) = some (r1, r2) := by first | (rw [hji26] at H;exact H) | (simp only [hji26] at H ⊢;exact H)
          have hji26_ : (IntKind.i64.wrap (1 * 2 ^ min a2.toNat 64)) = ji26 := hji26
          have hji26z : a2 ≤ 64 → (IntKind.i64.wrap (1 * 2 ^ a2.toNat)) = ji26 := shl_small hji26
          have hji26u : (IntKind.i64.wrap (2 ^ min a2.toNat 64)) = ji26 := by have h_ := hji26_;rw [Int.one_mul] at h_;exact h_
          have hji26v : a2 ≤ 64 → (IntKind.i64.wrap (2 ^ a2.toNat)) = ji26 := fun hle_ => by have h_ := hji26z hle_;rw [Int.one_mul] at h_;exact h_
          have hji26y : (wrap64 (1 * 2 ^ min a2.toNat 64)) = ji26 := (i64_w _).symm.trans hji26_
          have hji26x : a2 ≤ 64 → (wrap64 (1 * 2 ^ a2.toNat)) = ji26 := fun h_ => (i64_w _).symm.trans (hji26z h_)
          obtain ⟨y226, hy226⟩ : ∃ y_ : List Int, y_ = (x11_16.set (x24_1 : Int).toNat (Go.bits .or .i64 (rd x11_16 x24_1) (ji26))) := ⟨_, rfl⟩
          replace H : ((impl_net_isClique.f kj16 l0_0 (rd y226 x24_1)).bind fun t228 => (if t228 = true then ((impl_net_coverBy.f kj16 l0_0 a1 (wrap64 (a2 + 1)) y226).bind fun bt229 => (if bt229.2 = true then (some (bt229.1, true)) else (impl_net_coverBy.l0 kj16 a1 a2 x3_1 ji10 (wrap64 (x24_1 + 1)) l0_0))) else (impl_net_coverBy.l0 kj16 a1 a2 x3_1 ji10 (wrap64 (x24_1 + 1)) l0_0))) = some (r1, r2) := by first | (rw [hy226];with_reducible exact H) | (have H2_ := (Option.bind_some _ _).symm.trans H;rw [hy226];with_reducible exact H2_) | (have H2_ := (Option.bind_some _ _).symm.trans H;with_reducible exact H2_) | with_reducible exact H | (rw [hy226];exact H) | exact H
          have Ny226 := Aside0.mk hy226
          clear hy226
          replace H := Option.bind_eq_some_iff.mp H
          obtain ⟨t228, A280, H⟩ := H
          replace H : (if t228 = true then ((impl_net_coverBy.f kj16 l0_0 a1 (wrap64 (a2 + 1)) y226).bind fun bt229 => (if bt229.2 = true then (some (bt229.1, true)) else (impl_net_coverBy.l0 kj16 a1 a2 x3_1 ji10 (wrap64 (x24_1 + 1)) l0_0))) else (impl_net_coverBy.l0 kj16 a1 a2 x3_1 ji10 (wrap64 (x24_1 + 1)) l0_0)) = some (r1, r2) := H
          have A28 := Aside0.mk A280
          clear A280
          by_cases c29 : t228 = true
          ·subst c29
           have H1 : ((impl_net_coverBy.f kj16 l0_0 a1 (wrap64 (a2 + 1)) y226).bind fun bt229 => (if bt229.2 = true then (some (bt229.1, true)) else (impl_net_coverBy.l0 kj16 a1 a2 x3_1 ji10 (wrap64 (x24_1 + 1)) l0_0))) = some (r1, r2) := by rw [if_pos rfl] at H;exact H
           clear H
           have H := H1
           clear H1
           replace H := Option.bind_eq_some_iff.mp H
           obtain ⟨⟨t229, t232⟩, A300, H⟩ := H
           replace H : (if t232 = true then (some (t229, true)) else (impl_net_coverBy.l0 kj16 a1 a2 x3_1 ji10 (wrap64 (x24_1 + 1)) l0_0)) = some (r1, r2) := H
           have A30 := Aside0.mk A300
           clear A300
           by_cases c31 : t232 = true
           ·subst c31
            have H1 : (some (t229, true)) = some (r1, r2) := by rw [if_pos rfl] at H;exact H
            clear H
            have H := H1
            clear H1
            simp only [Option.some.injEq, Prod.mk.injEq] at H
            obtain ⟨rfl, rfl⟩ := H
            try go_wp2
            have n0_ := Aside0.mk (Kd.R_drew HO_3.out)
            have n1_ := Aside0.mk (Kd.R_drew HO_11.out)
            have n2_ := Aside0.mk (blk_drew BK217.out)
            have n3_ := Aside0.mk (Kept.drew HK.out)
            have n4_ := Aside0.mk (below_drew1 HB.out)
            clear HO_3
            clear HO_11
            clear BK217
            clear HK
            clear HB
            have HO_3 := n0_
            have HO_11 := n1_
            have BK217 := n2_
            have HK := n3_
            have HB := n4_
            clear n0_ n1_ n2_ n3_ n4_
            obtain ⟨Ao33, co33, eo33⟩ := Kd.R_slice HO_11.out
            (first | subst eo33 | (injection eo33 with f1_ f2_ f3_;have f4_ := f1_.symm;have f5_ := f3_.symm;clear f1_ f2_ f3_;subst f4_;subst f5_))
            have p225 : 0 ≤ (x24_1 : Int) := oA
            have q225 : x24_1 < (x11_16.length : Int) := oA
            obtain ⟨ad225, e225, hx225_0⟩ := Kd.at_int (Kd.R_reads' HO_11.out).2.2 x24_1 p225 q225
            cases e225
            replace p225 := eq_true p225
            replace q225 := eq_true q225
            have p27 : 0 ≤ (x24_1 : Int) := oA
            have q27 : (x24_1 : Int) < ((x11_16.length : Int) : Int) := oA
            obtain ⟨go27, co27, eo27, gb27, gl27, cl27, HG27⟩ := Kd.R_form HO_11.out (by omega)
            (first | cases eo27 | (injection eo27 with ea_ en_ ec_;(first | subst ea_ | (injection ea_ with ea_;subst ea_));subst ec_;clear en_))
            have GB27 := Aside0.mk gb27
            have GG27 := Aside0.mk HG27
            clear gb27 gl27 HG27
            have HMgo27 := Aside0.mk (show (P3_ go27 ∨ w.heap.size ≤ go27) from (HO_11.out.1 _ rfl).1)
            (first | simp only [add_plain] at hx225_0 | skip)
            obtain ⟨hx27_0, hf27_0⟩ := Kd.R_celln 0 HO_11.out (x24_1 : Int) p27 q27
            replace p27 := eq_true p27
            replace q27 := eq_true q27
            have HP34 := Kd.R_putn HO_11.out (x24_1 : Int) (Go.bits .or .i64 (rd x11_16 x24_1) (ji26))
            rw [← Ny226.out] at HP34
            have HQ34 := Aside0.mk HP34
            clear HP34
            refine start_ (n := 9) (S := fun w' => w'.cell? ⟨go27, (x24_1).toNat, none⟩ = some (.int .i64 (rd x11_16 x24_1))) (ds := [8]) #[false,false,false,false,false,false,false,false,false] (by kernel_rfl) rfl rfl (hx225_0) (fun hHeld => ?_);refine with_tabW impl_net_coverBy.tab9 impl_net_coverBy.bits9 (fun HT_ HW_ => ?_)
            generalize wc.drew = w32 at HO_3 HO_11 BK217 HK HB GG27 HQ34 hf27_0 hx225_0 hx27_0 hHeld ⊢
            refine pure_ (i := 0) (N := some 36) (v := ?_) (a' := ?_) #[true,false,false,false,false,false,false,false,false] rfl rfl (any_of HT_.out (by kernel_rfl)) (fun _ _ _ h => h) (Or.inl ⟨by rfl, ?_⟩) ?_ ?_
            rotate_left
            ·intro w'
             go_simp
             with_reducible rfl
            rotate_left
            ·simp only [Act.put, List.setIfInBounds_toArray, List.set_cons_zero, List.set_cons_succ, i64_w, i32_w]
             rfl
            refine pure_ (i := 1) (N := some 37) (v := ?_) (a' := ?_) #[true,true,false,false,false,false,false,false,false] rfl rfl (any_of HT_.out (by kernel_rfl)) (fun _ _ _ h => h) (Or.inl ⟨by rfl, ?_⟩) ?_ ?_
            rotate_left
            ·intro w'
             go_simp
             with_reducible rfl
            rotate_left
            ·simp only [Act.put, List.setIfInBounds_toArray, List.set_cons_zero, List.set_cons_succ, i64_w, i32_w]
             rfl
            refine pure_ (i := 2) (N := some 38) (v := ?_) (a' := ?_) #[true,true,true,false,false,false,false,false,false] rfl rfl (any_of HT_.out (by kernel_rfl)) (fun _ _ _ h => h) (Or.inl ⟨by rfl, ?_⟩) ?_ ?_
            rotate_left
            ·intro w'
             go_simp
             with_reducible rfl
            rotate_left
            ·simp only [Act.put, List.setIfInBounds_toArray, List.set_cons_zero, List.set_cons_succ, i64_w, i32_w]
             rfl
            refine pure_ (i := 4) (N := some 40) (v := ?_) (a' := ?_) #[true,true,true,false,true,false,false,false,false] rfl rfl (any_of HT_.out (by kernel_rfl)) (fun _ _ _ h => h) (Or.inl ⟨by rfl, ?_⟩) ?_ ?_
            rotate_left
            ·intro w'
             go_simp
             with_reducible rfl
            rotate_left
            ·simp only [Act.put, List.setIfInBounds_toArray, List.set_cons_zero, List.set_cons_succ, i64_w, i32_w]
             rfl
            refine pure_ (i := 5) (N := some 41) (v := ?_) (a' := ?_) #[true,true,true,false,true,true,false,false,false] rfl rfl (any_of HT_.out (by kernel_rfl)) (fun _ _ _ h => h) (Or.inl ⟨by rfl, ?_⟩) ?_ ?_
            rotate_left
            ·intro w'
             go_simp
             with_reducible rfl
            rotate_left
            ·simp only [Act.put, List.setIfInBounds_toArray, List.set_cons_zero, List.set_cons_succ, i64_w, i32_w]
             rfl
            refine take_ (i := 3) (N := some 39) (v := ?_) (a' := ?_) #[true,true,true,true,true,true,false,false,false] rfl rfl (take_ofW HT_.out HW_.out (by kernel_rfl)) (fun _ _ _ h => h) (Or.inl ⟨by rfl, ?_⟩) hHeld ?_ ?_
            rotate_left
            ·intro w' s0
             go_simp
             with_reducible rfl
            rotate_left
            ·simp only [Act.put, List.setIfInBounds_toArray, List.set_cons_zero, List.set_cons_succ, i64_w, i32_w]
             rfl
            refine pure_ (i := 6) (N := some 42) (v := ?_) (a' := ?_) #[true,true,true,true,true,true,true,false,false] rfl rfl (any_of HT_.out (by kernel_rfl)) (fun _ _ _ h => h) (Or.inl ⟨by rfl, ?_⟩) ?_ ?_
            rotate_left
            ·intro w'
             go_simp
             with_reducible rfl
            rotate_left
            ·simp only [Act.put, List.setIfInBounds_toArray, List.set_cons_zero, List.set_cons_succ, i64_w, i32_w]
             rfl
            refine pure_ (i := 7) (N := some 43) (v := ?_) (a' := ?_) #[true,true,true,true,true,true,true,true,false] rfl rfl (any_of HT_.out (by kernel_rfl)) (fun _ _ _ h => h) (Or.inl ⟨by rfl, ?_⟩) ?_ ?_
            rotate_left
            ·intro w'
             go_simp
             with_reducible rfl
            rotate_left
            ·simp only [Act.put, List.setIfInBounds_toArray, List.set_cons_zero, List.set_cons_succ, i64_w, i32_w]
             rfl
            refine last_ (i := 8) (N := none) #[true,true,true,true,true,true,true,true,true] rfl rfl (one_of HT_.out (by kernel_rfl)) (by decide) (fun K hK => ?_)
            refine skip_ (w1 := ?_) (by rfl) rfl ?_ ?_
            rotate_left
            ·go_simp
             rfl
            refine hK.out _ _ ?_
            clear hK K
            refine done_ (done_of HT_.out (by kernel_rfl)) ?_
            try go_wp2
            have n0_ : Aside0 (Kd.R (Kd.int .i64) 3 (w32.setCell ⟨go27, (x24_1 : Int).toNat, none⟩ (.int .i64 (Go.bits .or .i64 (rd x11_16 x24_1) (ji26)))) w0.heap.size (fun k_ => (P3_ k_ ∨ w.heap.size ≤ k_) ∧ some k_ ≠ (.slice (some ⟨go27, 0, none⟩) x11_16.length co33 : Value).ownBlock) (.slice Ao14 x3_1.length co14) x3_1) := ⟨by refine rP ?_;exact Kd.R_mono (Kd.R_far (p := ⟨go27, (x24_1 : Int).toNat, none⟩) (Kd.R_mono HO_3.out (fun k_ hk => (⟨hk, fun e_ => hk.2 (by rw [e_];rfl)⟩ : _ ∧ k_ ≠ go27))) (fun _ hk => hk.2) (.int .i64 (Go.bits .or .i64 (rd x11_16 x24_1) (ji26)))) (fun _ hk => ⟨hk.1.1, hk.1.2⟩)⟩
            have n1_ : Aside0 (Kd.R (Kd.int .i64) 3 (w32.setCell ⟨go27, (x24_1 : Int).toNat, none⟩ (.int .i64 (Go.bits .or .i64 (rd x11_16 x24_1) (ji26)))) w0.heap.size (fun k_ => (P3_ k_ ∨ w.heap.size ≤ k_) ∧ some k_ ≠ (.slice Ao14 x3_1.length co14 : Value).ownBlock) (.slice (some ⟨go27, 0, none⟩) x11_16.length co33) y226) := ⟨by exact rP HQ34.out⟩
            have n2_ : Aside0 ((w32.setCell ⟨go27, (x24_1 : Int).toNat, none⟩ (.int .i64 (Go.bits .or .i64 (rd x11_16 x24_1) (ji26)))).heap[gb217]? = some (.cells #[.slice A0_0 l0_0.length c0_0] 56 (0, 0))) := ⟨by refine kP ?_;refine blk_far ?_ (by have h_ := Kd.R_ne HO_11.out BK217.out (by decide);intro e_;exact h_ (by rw [e_];rfl)) _;exact kP BK217.out⟩
            have n3_ : Aside0 (Kept w (w32.setCell ⟨go27, (x24_1 : Int).toNat, none⟩ (.int .i64 (Go.bits .or .i64 (rd x11_16 x24_1) (ji26)))) (fun k_ => P3_ k_)) := ⟨by repeat (first | (with_reducible first | exact HK.out | apply Kept.alloc | apply Kept.drewN | apply Kept.drew | refine Kept.setCell ?_ HMgo27.out _ | refine Kept.setCell ?_ (.inr GW217.out) _) | exact HK.out)⟩
            have n4_ : Aside0 (Below w0.heap.size w0 (w32.setCell ⟨go27, (x24_1 : Int).toNat, none⟩ (.int .i64 (Go.bits .or .i64 (rd x11_16 x24_1) (ji26))))) := ⟨by repeat (first | (with_reducible first | exact HB.out | apply below_alloc | apply pw_below_drewN | apply below_drew1 | refine below_set ?_ GB27.out | refine below_set ?_ GE217.out) | exact HB.out)⟩
            (try clear HO_3)
            (try clear HO_11)
            (try clear BK217)
            (try clear HK)
            (try clear HB)
            generalize (w32.setCell ⟨go27, (x24_1 : Int).toNat, none⟩ (.int .i64 (Go.bits .or .i64 (rd x11_16 x24_1) (ji26)))) = w35 at n0_ n1_ n2_ n3_ n4_ ⊢
            have HO_3 := n0_
            have HO_11 := n1_
            have BK217 := n2_
            have HK := n3_
            have HB := n4_
            clear n0_ n1_ n2_ n3_ n4_
            have n0_ := Aside0.mk (Kd.R_drew HO_3.out)
            have n1_ := Aside0.mk (Kd.R_drew HO_11.out)
            have n2_ := Aside0.mk (blk_drew BK217.out)
            have n3_ := Aside0.mk (Kept.drew HK.out)
            have n4_ := Aside0.mk (below_drew1 HB.out)
            clear HO_3
            clear HO_11
            clear BK217
            clear HK
            clear HB
            have HO_3 := n0_
            have HO_11 := n1_
            have BK217 := n2_
            have HK := n3_
            have HB := n4_
            clear n0_ n1_ n2_ n3_ n4_
            have p227 : 0 ≤ (x24_1 : Int) := oA
            have q227 : x24_1 < (y226.length : Int) := (by have h_ : (x24_1 : Int) < ((x11_16.length : Int) : Int) := oA;first | (have e_ := (Kd.R_reads' HO_11.out).1;omega) | simpa only [Ny226.out, List.length_set] using h_)
            have ql227 : ((x24_1 : Int) < ((x11_16.length : Int) : Int)) = True := eq_true (oA)
            obtain ⟨ad227, e227, hx227_0⟩ := Kd.at_int (Kd.R_reads' HO_11.out).2.2 x24_1 p227 q227
            obtain rfl : (⟨go27, 0, none⟩ : Addr) = ad227 := (by injection e227)
            (first | simp only [add_plain] at hx227_0 | simp only [add_at] at hx227_0 | simp only [Addr.add, Nat.zero_add] at hx227_0 | skip)
            replace p227 := eq_true p227
            replace q227 := eq_true q227
            refine start_ (n := 7) (S := fun w' => w'.cell? ⟨gb217, 0, none⟩ = some (.slice A0_0 l0_0.length c0_0) ∧ w'.cell? ⟨go27, (x24_1).toNat, none⟩ = some (.int .i64 (rd y226 x24_1))) (ds := []) #[false,false,false,false,false,false,false] (by kernel_rfl) rfl rfl ⟨(blk_cell BK217.out 0).trans rfl, hx227_0⟩ (fun hHeld => ?_)
            generalize w35.drew = w36 at HO_3 HO_11 BK217 HK HB HQ34 hx227_0 hHeld ⊢
            refine pure_ (i := 1) (N := some 45) (v := ?_) (a' := ?_) #[false,true,false,false,false,false,false] rfl rfl (by kernel_rfl) (fun _ _ _ h => h) (Or.inl ⟨by rfl, ?_⟩) ?_ ?_
            rotate_left
            ·intro w'
             go_simp
             with_reducible rfl
            rotate_left
            ·simp only [Act.put, List.setIfInBounds_toArray, List.set_cons_zero, List.set_cons_succ, i64_w, i32_w]
             rfl
            refine pure_ (i := 2) (N := some 46) (v := ?_) (a' := ?_) #[false,true,true,false,false,false,false] rfl rfl (by kernel_rfl) (fun _ _ _ h => h) (Or.inl ⟨by rfl, ?_⟩) ?_ ?_
            rotate_left
            ·intro w'
             go_simp
             with_reducible rfl
            rotate_left
            ·simp only [Act.put, List.setIfInBounds_toArray, List.set_cons_zero, List.set_cons_succ, i64_w, i32_w]
             rfl
            refine pure_ (i := 3) (N := some 47) (v := ?_) (a' := ?_) #[false,true,true,true,false,false,false] rfl rfl (by kernel_rfl) (fun _ _ _ h => h) (Or.inl ⟨by rfl, ?_⟩) ?_ ?_
            rotate_left
            ·intro w'
             go_simp
             with_reducible rfl
            rotate_left
            ·simp only [Act.put, List.setIfInBounds_toArray, List.set_cons_zero, List.set_cons_succ, i64_w, i32_w]
             rfl
            refine take_ (i := 0) (N := some 44) (v := ?_) (a' := ?_) #[true,true,true,true,false,false,false] rfl rfl (by kernel_rfl) (fun _ _ _ h => h) (Or.inl ⟨by rfl, ?_⟩) hHeld ?_ ?_
            rotate_left
            ·rintro w' ⟨s0, s1⟩
             go_simp
             with_reducible rfl
            rotate_left
            ·simp only [Act.put, List.setIfInBounds_toArray, List.set_cons_zero, List.set_cons_succ, i64_w, i32_w]
             rfl
            refine take_ (i := 4) (N := some 48) (v := ?_) (a' := ?_) #[true,true,true,true,true,false,false] rfl rfl (by kernel_rfl) (fun _ _ _ h => h) (Or.inl ⟨by rfl, ?_⟩) hHeld ?_ ?_
            rotate_left
            ·rintro w' ⟨s0, s1⟩
             go_simp
             with_reducible rfl
            rotate_left
            ·simp only [Act.put, List.setIfInBounds_toArray, List.set_cons_zero, List.set_cons_succ, i64_w, i32_w]
             rfl
            refine one_ (i := 5) (N := some 49) #[true,true,true,true,true,true,false] rfl rfl (by kernel_rfl) (by decide) (fun K hK => ?_)
            refine goes_ Try.func77 (by kernel_rfl) rfl #[.agg #[.slice A0_0 l0_0.length c0_0], .int .i64 (rd y226 x24_1)] (by rfl) rfl rfl mM ?_
            with_reducible refine (impl_net_isClique.calls kj16 _ _ l0_0 (rd y226 x24_1) true _ ?side1 ?side2 A28.out).mono ?_
            (case side1 => exact Kd.C_kept_now HR0_0.out (by exact kE))
            (case side2 => exact HC0_0.out)
            rintro e w37 ⟨rfl, hb⟩
            have HS1_ := (hb.cell (World.block_lt_of_cell? _ _ (hHeld.2))).trans (hHeld.2)
            refine ⟨_, rfl, ?_⟩
            have n0_ := Aside0.mk (Kd.R_below (by exact rP HO_3.out) hb)
            have n1_ := Aside0.mk (Kd.R_below (by exact rP HO_11.out) hb)
            have n2_ := Aside0.mk (blk_below (g := gb217) (o := .cells #[.slice A0_0 l0_0.length c0_0] 56 (0, 0)) (by exact kP BK217.out) hb)
            have n3_ := Aside0.mk (Kept.below (S := (fun k_ => P3_ k_)) (by exact kE) hb)
            have n4_ := Aside0.mk (below_step (by exact bB) hb)
            clear HO_3
            clear HO_11
            clear BK217
            clear HK
            clear HB
            have HO_3 := n0_
            have HO_11 := n1_
            have BK217 := n2_
            have HK := n3_
            have HB := n4_
            clear n0_ n1_ n2_ n3_ n4_
            (try clear hb)
            (try clear hb2)
            (try clear hk)
            (try clear hi)
            refine hK.out _ _ ⟨(blk_cell BK217.out 0).trans rfl, HS1_⟩ (fun hHeld => ?_)
            clear hK K
            refine norm_ (a' := ?_) ?_ ?_
            rotate_left
            ·show Act.put _ (some 49) _ = _
             simp only [Act.put, List.setIfInBounds_toArray, List.set_cons_zero, List.set_cons_succ, i64_w, i32_w]
             rfl
            refine pure_ (i := 6) (N := some 50) (v := ?_) (a' := ?_) #[true,true,true,true,true,true,true] rfl rfl (by kernel_rfl) (fun _ _ _ h => h) (Or.inl ⟨by rfl, ?_⟩) ?_ ?_
            rotate_left
            ·intro w'
             go_simp
             with_reducible rfl
            rotate_left
            ·simp only [Act.put, List.setIfInBounds_toArray, List.set_cons_zero, List.set_cons_succ, i64_w, i32_w]
             rfl
            refine done_ (by kernel_rfl) ?_
            have hcz38_0 : w37.cell? ⟨gb217, 0, none⟩ = some (.slice A0_0 l0_0.length c0_0) := (blk_cell BK217.out 0).trans rfl
            have hfz38_0 := blk_frozen BK217.out 0
            try go_wp2_with (first | ((with_reducible refine gate_callee (f := 45) rfl ?_);refine goesL_ (some 57) rfl rfl Try.func45 (by kernel_rfl) rfl #[.agg #[.slice A0_0 l0_0.length c0_0], .int .i64 a1, .int .i64 (wrap64 (a2 + 1)), .slice (some ⟨go27, 0, none⟩) x11_16.length co33] rfl mM ?_;(with_reducible refine (ih kj16 (by have := HK1.out;have := HJ16.out;omega) _ _ l0_0 a1 (wrap64 (a2 + 1)) (fun k_ => some k_ = (.slice (some ⟨go27, 0, none⟩) x11_16.length co33 : Value).ownBlock) (.slice (some ⟨go27, 0, none⟩) x11_16.length co33) y226 t229 true w0 _ ?side1 ?side2 ?side3 ?side4 A30.out).mono ?_);(case side1 => exact bB);(case side2 => exact Kd.C_kept_call HR0_0.out (by exact kE) (fun k_ hs_ => (fun e_ => (HO_11.out.1 k_ e_.symm).1) hs_));(case side3 => exact HC0_0.out);(case side4 => exact Kd.R_tight rfl HO_11.out);rintro e w39 ⟨v230, rfl, ho0, hb, hkp⟩;refine ⟨_, rfl, ?_⟩;have n0_ := Aside0.mk (Kd.R_mono (ok' := fun k_ => (P3_ k_ ∨ w.heap.size ≤ k_) ∧ some k_ ≠ (v230 : Value).ownBlock) (Kd.R_keptB (HO_3.out) hkp (fun k_ hk_ hs_ => (hk_.2) hs_)) (fun k_ hk_ => ⟨hk_.1.1, fun e_ => Or.elim (ho0.1 k_ e_.symm) (fun hs_ => hk_.2.1 hs_) (fun hn_ => Nat.not_le.2 hk_.2.2 hn_)⟩));have n1_ := Aside0.mk (blk_kept (by exact kP BK217.out) hkp (fun hs_ => (fun e_ => (Kd.R_ne HO_11.out BK217.out (by decide)) e_) hs_));have n2_ := Aside0.mk (Kd.R_mono (ok' := fun k_ => (P3_ k_ ∨ w.heap.size ≤ k_) ∧ some k_ ≠ (.slice Ao14 x3_1.length co14 : Value).ownBlock) ho0 (fun k_ hk_ => ⟨Or.elim hk_ (fun hs_ => (HO_11.out.1 k_ (hs_).symm).1) (fun hn_ => (.inr (Nat.le_trans (by first | exact HK.out.1 | exact (show Kept w _ (fun k_ => P3_ k_) from by exact kE).1) hn_))), Or.elim hk_ (fun hs_ => fun e_ => (((HO_3.out).1 k_ e_.symm).2) hs_) (fun hn_ => (Kd.fresh' (Kd.R_lt (by exact rP HO_3.out)) k_ hn_))⟩));have n3_ := Aside0.mk (Kept.then_ (S := (fun k_ => P3_ k_)) (by exact kE) hkp (fun k_ hs_ => (fun e_ => (HO_11.out.1 k_ e_.symm).1) hs_));have n4_ := Aside0.mk (hb);clear HO_3;clear BK217;clear HK;clear HB;clear HO_11;have HO_3 := n0_;have BK217 := n1_;have HO231 := n2_;have HK := n3_;have HB := n4_;clear n0_ n1_ n2_ n3_ n4_;(try clear hb);(try clear hkp);(try clear ho0)))
            go_ret2
            exact ⟨_, by first | rfl | (simp [errW_none, errW_some] <;> rfl) | (simp only [← hji10, ← hji26];first | rfl | (simp [errW_none, errW_some] <;> rfl)) | (simp [*, errW_none, errW_some] <;> rfl), by refine rP ?_;exact Kd.R_mono HO231.out (fun _ hk => hk.1), by exact bB, by exact kE⟩
           ·replace c31 := Bool.eq_false_iff.mpr c31
            subst c31
            have H1 : (impl_net_coverBy.l0 kj16 a1 a2 x3_1 ji10 (wrap64 (x24_1 + 1)) l0_0) = some (r1, r2) := by rw [if_neg (show ¬ (false = true) by decide)] at H;exact H
            clear H
            have H := H1
            clear H1
            have H' := Aside0.mk H
            clear H
            try go_wp2
            have n0_ := Aside0.mk (Kd.R_drew HO_3.out)
            have n1_ := Aside0.mk (Kd.R_drew HO_11.out)
            have n2_ := Aside0.mk (blk_drew BK217.out)
            have n3_ := Aside0.mk (Kept.drew HK.out)
            have n4_ := Aside0.mk (below_drew1 HB.out)
            clear HO_3
            clear HO_11
            clear BK217
            clear HK
            clear HB
            have HO_3 := n0_
            have HO_11 := n1_
            have BK217 := n2_
            have HK := n3_
            have HB := n4_
            clear n0_ n1_ n2_ n3_ n4_
            obtain ⟨Ao41, co41, eo41⟩ := Kd.R_slice HO_11.out
            (first | subst eo41 | (injection eo41 with f1_ f2_ f3_;have f4_ := f1_.symm;have f5_ := f3_.symm;clear f1_ f2_ f3_;subst f4_;subst f5_))
            have p225 : 0 ≤ (x24_1 : Int) := oA
            have q225 : x24_1 < (x11_16.length : Int) := oA
            obtain ⟨ad225, e225, hx225_0⟩ := Kd.at_int (Kd.R_reads' HO_11.out).2.2 x24_1 p225 q225
            cases e225
            replace p225 := eq_true p225
            replace q225 := eq_true q225
            have p27 : 0 ≤ (x24_1 : Int) := oA
            have q27 : (x24_1 : Int) < ((x11_16.length : Int) : Int) := oA
            obtain ⟨go27, co27, eo27, gb27, gl27, cl27, HG27⟩ := Kd.R_form HO_11.out (by omega)
            (first | cases eo27 | (injection eo27 with ea_ en_ ec_;(first | subst ea_ | (injection ea_ with ea_;subst ea_));subst ec_;clear en_))
            have GB27 := Aside0.mk gb27
            have GG27 := Aside0.mk HG27
            clear gb27 gl27 HG27
            have HMgo27 := Aside0.mk (show (P3_ go27 ∨ w.heap.size ≤ go27) from (HO_11.out.1 _ rfl).1)
            (first | simp only [add_plain] at hx225_0 | skip)
            obtain ⟨hx27_0, hf27_0⟩ := Kd.R_celln 0 HO_11.out (x24_1 : Int) p27 q27
            replace p27 := eq_true p27
            replace q27 := eq_true q27
            have HP42 := Kd.R_putn HO_11.out (x24_1 : Int) (Go.bits .or .i64 (rd x11_16 x24_1) (ji26))
            rw [← Ny226.out] at HP42
            have HQ42 := Aside0.mk HP42
            clear HP42
            refine start_ (n := 9) (S := fun w' => w'.cell? ⟨go27, (x24_1).toNat, none⟩ = some (.int .i64 (rd x11_16 x24_1))) (ds := [8]) #[false,false,false,false,false,false,false,false,false] (by kernel_rfl) rfl rfl (hx225_0) (fun hHeld => ?_);refine with_tabW impl_net_coverBy.tab9 impl_net_coverBy.bits9 (fun HT_ HW_ => ?_)
            generalize wc.drew = w40 at HO_3 HO_11 BK217 HK HB GG27 HQ42 hf27_0 hx225_0 hx27_0 hHeld ⊢
            refine pure_ (i := 0) (N := some 36) (v := ?_) (a' := ?_) #[true,false,false,false,false,false,false,false,false] rfl rfl (any_of HT_.out (by kernel_rfl)) (fun _ _ _ h => h) (Or.inl ⟨by rfl, ?_⟩) ?_ ?_
            rotate_left
            ·intro w'
             go_simp
             with_reducible rfl
            rotate_left
            ·simp only [Act.put, List.setIfInBounds_toArray, List.set_cons_zero, List.set_cons_succ, i64_w, i32_w]
             rfl
            refine pure_ (i := 1) (N := some 37) (v := ?_) (a' := ?_) #[true,true,false,false,false,false,false,false,false] rfl rfl (any_of HT_.out (by kernel_rfl)) (fun _ _ _ h => h) (Or.inl ⟨by rfl, ?_⟩) ?_ ?_
            rotate_left
            ·intro w'
             go_simp
             with_reducible rfl
            rotate_left
            ·simp only [Act.put, List.setIfInBounds_toArray, List.set_cons_zero, List.set_cons_succ, i64_w, i32_w]
             rfl
            refine pure_ (i := 2) (N := some 38) (v := ?_) (a' := ?_) #[true,true,true,false,false,false,false,false,false] rfl rfl (any_of HT_.out (by kernel_rfl)) (fun _ _ _ h => h) (Or.inl ⟨by rfl, ?_⟩) ?_ ?_
            rotate_left
            ·intro w'
             go_simp
             with_reducible rfl
            rotate_left
            ·simp only [Act.put, List.setIfInBounds_toArray, List.set_cons_zero, List.set_cons_succ, i64_w, i32_w]
             rfl
            refine pure_ (i := 4) (N := some 40) (v := ?_) (a' := ?_) #[true,true,true,false,true,false,false,false,false] rfl rfl (any_of HT_.out (by kernel_rfl)) (fun _ _ _ h => h) (Or.inl ⟨by rfl, ?_⟩) ?_ ?_
            rotate_left
            ·intro w'
             go_simp
             with_reducible rfl
            rotate_left
            ·simp only [Act.put, List.setIfInBounds_toArray, List.set_cons_zero, List.set_cons_succ, i64_w, i32_w]
             rfl
            refine pure_ (i := 5) (N := some 41) (v := ?_) (a' := ?_) #[true,true,true,false,true,true,false,false,false] rfl rfl (any_of HT_.out (by kernel_rfl)) (fun _ _ _ h => h) (Or.inl ⟨by rfl, ?_⟩) ?_ ?_
            rotate_left
            ·intro w'
             go_simp
             with_reducible rfl
            rotate_left
            ·simp only [Act.put, List.setIfInBounds_toArray, List.set_cons_zero, List.set_cons_succ, i64_w, i32_w]
             rfl
            refine take_ (i := 3) (N := some 39) (v := ?_) (a' := ?_) #[true,true,true,true,true,true,false,false,false] rfl rfl (take_ofW HT_.out HW_.out (by kernel_rfl)) (fun _ _ _ h => h) (Or.inl ⟨by rfl, ?_⟩) hHeld ?_ ?_
            rotate_left
            ·intro w' s0
             go_simp
             with_reducible rfl
            rotate_left
            ·simp only [Act.put, List.setIfInBounds_toArray, List.set_cons_zero, List.set_cons_succ, i64_w, i32_w]
             rfl
            refine pure_ (i := 6) (N := some 42) (v := ?_) (a' := ?_) #[true,true,true,true,true,true,true,false,false] rfl rfl (any_of HT_.out (by kernel_rfl)) (fun _ _ _ h => h) (Or.inl ⟨by rfl, ?_⟩) ?_ ?_
            rotate_left
            ·intro w'
             go_simp
             with_reducible rfl
            rotate_left
            ·simp only [Act.put, List.setIfInBounds_toArray, List.set_cons_zero, List.set_cons_succ, i64_w, i32_w]
             rfl
            refine pure_ (i := 7) (N := some 43) (v := ?_) (a' := ?_) #[true,true,true,true,true,true,true,true,false] rfl rfl (any_of HT_.out (by kernel_rfl)) (fun _ _ _ h => h) (Or.inl ⟨by rfl, ?_⟩) ?_ ?_
            rotate_left
            ·intro w'
             go_simp
             with_reducible rfl
            rotate_left
            ·simp only [Act.put, List.setIfInBounds_toArray, List.set_cons_zero, List.set_cons_succ, i64_w, i32_w]
             rfl
            refine last_ (i := 8) (N := none) #[true,true,true,true,true,true,true,true,true] rfl rfl (one_of HT_.out (by kernel_rfl)) (by decide) (fun K hK => ?_)
            refine skip_ (w1 := ?_) (by rfl) rfl ?_ ?_
            rotate_left
            ·go_simp
             rfl
            refine hK.out _ _ ?_
            clear hK K
            refine done_ (done_of HT_.out (by kernel_rfl)) ?_
            try go_wp2
            have n0_ : Aside0 (Kd.R (Kd.int .i64) 3 (w40.setCell ⟨go27, (x24_1 : Int).toNat, none⟩ (.int .i64 (Go.bits .or .i64 (rd x11_16 x24_1) (ji26)))) w0.heap.size (fun k_ => (P3_ k_ ∨ w.heap.size ≤ k_) ∧ some k_ ≠ (.slice (some ⟨go27, 0, none⟩) x11_16.length co41 : Value).ownBlock) (.slice Ao14 x3_1.length co14) x3_1) := ⟨by refine rP ?_;exact Kd.R_mono (Kd.R_far (p := ⟨go27, (x24_1 : Int).toNat, none⟩) (Kd.R_mono HO_3.out (fun k_ hk => (⟨hk, fun e_ => hk.2 (by rw [e_];rfl)⟩ : _ ∧ k_ ≠ go27))) (fun _ hk => hk.2) (.int .i64 (Go.bits .or .i64 (rd x11_16 x24_1) (ji26)))) (fun _ hk => ⟨hk.1.1, hk.1.2⟩)⟩
            have n1_ : Aside0 (Kd.R (Kd.int .i64) 3 (w40.setCell ⟨go27, (x24_1 : Int).toNat, none⟩ (.int .i64 (Go.bits .or .i64 (rd x11_16 x24_1) (ji26)))) w0.heap.size (fun k_ => (P3_ k_ ∨ w.heap.size ≤ k_) ∧ some k_ ≠ (.slice Ao14 x3_1.length co14 : Value).ownBlock) (.slice (some ⟨go27, 0, none⟩) x11_16.length co41) y226) := ⟨by exact rP HQ42.out⟩
            have n2_ : Aside0 ((w40.setCell ⟨go27, (x24_1 : Int).toNat, none⟩ (.int .i64 (Go.bits .or .i64 (rd x11_16 x24_1) (ji26)))).heap[gb217]? = some (.cells #[.slice A0_0 l0_0.length c0_0] 56 (0, 0))) := ⟨by refine kP ?_;refine blk_far ?_ (by have h_ := Kd.R_ne HO_11.out BK217.out (by decide);intro e_;exact h_ (by rw [e_];rfl)) _;exact kP BK217.out⟩
            have n3_ : Aside0 (Kept w (w40.setCell ⟨go27, (x24_1 : Int).toNat, none⟩ (.int .i64 (Go.bits .or .i64 (rd x11_16 x24_1) (ji26)))) (fun k_ => P3_ k_)) := ⟨by repeat (first | (with_reducible first | exact HK.out | apply Kept.alloc | apply Kept.drewN | apply Kept.drew | refine Kept.setCell ?_ HMgo27.out _ | refine Kept.setCell ?_ (.inr GW217.out) _) | exact HK.out)⟩
            have n4_ : Aside0 (Below w0.heap.size w0 (w40.setCell ⟨go27, (x24_1 : Int).toNat, none⟩ (.int .i64 (Go.bits .or .i64 (rd x11_16 x24_1) (ji26))))) := ⟨by repeat (first | (with_reducible first | exact HB.out | apply below_alloc | apply pw_below_drewN | apply below_drew1 | refine below_set ?_ GB27.out | refine below_set ?_ GE217.out) | exact HB.out)⟩
            (try clear HO_3)
            (try clear HO_11)
            (try clear BK217)
            (try clear HK)
            (try clear HB)
            generalize (w40.setCell ⟨go27, (x24_1 : Int).toNat, none⟩ (.int .i64 (Go.bits .or .i64 (rd x11_16 x24_1) (ji26)))) = w43 at n0_ n1_ n2_ n3_ n4_ ⊢
            have HO_3 := n0_
            have HO_11 := n1_
            have BK217 := n2_
            have HK := n3_
            have HB := n4_
            clear n0_ n1_ n2_ n3_ n4_
            have n0_ := Aside0.mk (Kd.R_drew HO_3.out)
            have n1_ := Aside0.mk (Kd.R_drew HO_11.out)
            have n2_ := Aside0.mk (blk_drew BK217.out)
            have n3_ := Aside0.mk (Kept.drew HK.out)
            have n4_ := Aside0.mk (below_drew1 HB.out)
            clear HO_3
            clear HO_11
            clear BK217
            clear HK
            clear HB
            have HO_3 := n0_
            have HO_11 := n1_
            have BK217 := n2_
            have HK := n3_
            have HB := n4_
            clear n0_ n1_ n2_ n3_ n4_
            have p227 : 0 ≤ (x24_1 : Int) := oA
            have q227 : x24_1 < (y226.length : Int) := (by have h_ : (x24_1 : Int) < ((x11_16.length : Int) : Int) := oA;first | (have e_ := (Kd.R_reads' HO_11.out).1;omega) | simpa only [Ny226.out, List.length_set] using h_)
            have ql227 : ((x24_1 : Int) < ((x11_16.length : Int) : Int)) = True := eq_true (oA)
            obtain ⟨ad227, e227, hx227_0⟩ := Kd.at_int (Kd.R_reads' HO_11.out).2.2 x24_1 p227 q227
            obtain rfl : (⟨go27, 0, none⟩ : Addr) = ad227 := (by injection e227)
            (first | simp only [add_plain] at hx227_0 | simp only [add_at] at hx227_0 | simp only [Addr.add, Nat.zero_add] at hx227_0 | skip)
            replace p227 := eq_true p227
            replace q227 := eq_true q227
            refine start_ (n := 7) (S := fun w' => w'.cell? ⟨gb217, 0, none⟩ = some (.slice A0_0 l0_0.length c0_0) ∧ w'.cell? ⟨go27, (x24_1).toNat, none⟩ = some (.int .i64 (rd y226 x24_1))) (ds := []) #[false,false,false,false,false,false,false] (by kernel_rfl) rfl rfl ⟨(blk_cell BK217.out 0).trans rfl, hx227_0⟩ (fun hHeld => ?_)
            generalize w43.drew = w44 at HO_3 HO_11 BK217 HK HB HQ42 hx227_0 hHeld ⊢
            refine pure_ (i := 1) (N := some 45) (v := ?_) (a' := ?_) #[false,true,false,false,false,false,false] rfl rfl (by kernel_rfl) (fun _ _ _ h => h) (Or.inl ⟨by rfl, ?_⟩) ?_ ?_
            rotate_left
            ·intro w'
             go_simp
             with_reducible rfl
            rotate_left
            ·simp only [Act.put, List.setIfInBounds_toArray, List.set_cons_zero, List.set_cons_succ, i64_w, i32_w]
             rfl
            refine pure_ (i := 2) (N := some 46) (v := ?_) (a' := ?_) #[false,true,true,false,false,false,false] rfl rfl (by kernel_rfl) (fun _ _ _ h => h) (Or.inl ⟨by rfl, ?_⟩) ?_ ?_
            rotate_left
            ·intro w'
             go_simp
             with_reducible rfl
            rotate_left
            ·simp only [Act.put, List.setIfInBounds_toArray, List.set_cons_zero, List.set_cons_succ, i64_w, i32_w]
             rfl
            refine pure_ (i := 3) (N := some 47) (v := ?_) (a' := ?_) #[false,true,true,true,false,false,false] rfl rfl (by kernel_rfl) (fun _ _ _ h => h) (Or.inl ⟨by rfl, ?_⟩) ?_ ?_
            rotate_left
            ·intro w'
             go_simp
             with_reducible rfl
            rotate_left
            ·simp only [Act.put, List.setIfInBounds_toArray, List.set_cons_zero, List.set_cons_succ, i64_w, i32_w]
             rfl
            refine take_ (i := 0) (N := some 44) (v := ?_) (a' := ?_) #[true,true,true,true,false,false,false] rfl rfl (by kernel_rfl) (fun _ _ _ h => h) (Or.inl ⟨by rfl, ?_⟩) hHeld ?_ ?_
            rotate_left
            ·rintro w' ⟨s0, s1⟩
             go_simp
             with_reducible rfl
            rotate_left
            ·simp only [Act.put, List.setIfInBounds_toArray, List.set_cons_zero, List.set_cons_succ, i64_w, i32_w]
             rfl
            refine take_ (i := 4) (N := some 48) (v := ?_) (a' := ?_) #[true,true,true,true,true,false,false] rfl rfl (by kernel_rfl) (fun _ _ _ h => h) (Or.inl ⟨by rfl, ?_⟩) hHeld ?_ ?_
            rotate_left
            ·rintro w' ⟨s0, s1⟩
             go_simp
             with_reducible rfl
            rotate_left
            ·simp only [Act.put, List.setIfInBounds_toArray, List.set_cons_zero, List.set_cons_succ, i64_w, i32_w]
             rfl
            refine one_ (i := 5) (N := some 49) #[true,true,true,true,true,true,false] rfl rfl (by kernel_rfl) (by decide) (fun K hK => ?_)
            refine goes_ Try.func77 (by kernel_rfl) rfl #[.agg #[.slice A0_0 l0_0.length c0_0], .int .i64 (rd y226 x24_1)] (by rfl) rfl rfl mM ?_
            with_reducible refine (impl_net_isClique.calls kj16 _ _ l0_0 (rd y226 x24_1) true _ ?side1 ?side2 A28.out).mono ?_
            (case side1 => exact Kd.C_kept_now HR0_0.out (by exact kE))
            (case side2 => exact HC0_0.out)
            rintro e w45 ⟨rfl, hb⟩
            have HS1_ := (hb.cell (World.block_lt_of_cell? _ _ (hHeld.2))).trans (hHeld.2)
            refine ⟨_, rfl, ?_⟩
            have n0_ := Aside0.mk (Kd.R_below (by exact rP HO_3.out) hb)
            have n1_ := Aside0.mk (Kd.R_below (by exact rP HO_11.out) hb)
            have n2_ := Aside0.mk (blk_below (g := gb217) (o := .cells #[.slice A0_0 l0_0.length c0_0] 56 (0, 0)) (by exact kP BK217.out) hb)
            have n3_ := Aside0.mk (Kept.below (S := (fun k_ => P3_ k_)) (by exact kE) hb)
            have n4_ := Aside0.mk (below_step (by exact bB) hb)
            clear HO_3
            clear HO_11
            clear BK217
            clear HK
            clear HB
            have HO_3 := n0_
            have HO_11 := n1_
            have BK217 := n2_
            have HK := n3_
            have HB := n4_
            clear n0_ n1_ n2_ n3_ n4_
            (try clear hb)
            (try clear hb2)
            (try clear hk)
            (try clear hi)
            refine hK.out _ _ ⟨(blk_cell BK217.out 0).trans rfl, HS1_⟩ (fun hHeld => ?_)
            clear hK K
            refine norm_ (a' := ?_) ?_ ?_
            rotate_left
            ·show Act.put _ (some 49) _ = _
             simp only [Act.put, List.setIfInBounds_toArray, List.set_cons_zero, List.set_cons_succ, i64_w, i32_w]
             rfl
            refine pure_ (i := 6) (N := some 50) (v := ?_) (a' := ?_) #[true,true,true,true,true,true,true] rfl rfl (by kernel_rfl) (fun _ _ _ h => h) (Or.inl ⟨by rfl, ?_⟩) ?_ ?_
            rotate_left
            ·intro w'
             go_simp
             with_reducible rfl
            rotate_left
            ·simp only [Act.put, List.setIfInBounds_toArray, List.set_cons_zero, List.set_cons_succ, i64_w, i32_w]
             rfl
            refine done_ (by kernel_rfl) ?_
            have hcz46_0 : w45.cell? ⟨gb217, 0, none⟩ = some (.slice A0_0 l0_0.length c0_0) := (blk_cell BK217.out 0).trans rfl
            have hfz46_0 := blk_frozen BK217.out 0
            try go_wp2_with (first | ((with_reducible refine gate_callee (f := 45) rfl ?_);refine goesL_ (some 57) rfl rfl Try.func45 (by kernel_rfl) rfl #[.agg #[.slice A0_0 l0_0.length c0_0], .int .i64 a1, .int .i64 (wrap64 (a2 + 1)), .slice (some ⟨go27, 0, none⟩) x11_16.length co41] rfl mM ?_;(with_reducible refine (ih kj16 (by have := HK1.out;have := HJ16.out;omega) _ _ l0_0 a1 (wrap64 (a2 + 1)) (fun k_ => some k_ = (.slice (some ⟨go27, 0, none⟩) x11_16.length co41 : Value).ownBlock) (.slice (some ⟨go27, 0, none⟩) x11_16.length co41) y226 t229 false w0 _ ?side1 ?side2 ?side3 ?side4 A30.out).mono ?_);(case side1 => exact bB);(case side2 => exact Kd.C_kept_call HR0_0.out (by exact kE) (fun k_ hs_ => (fun e_ => (HO_11.out.1 k_ e_.symm).1) hs_));(case side3 => exact HC0_0.out);(case side4 => exact Kd.R_tight rfl HO_11.out);rintro e w47 ⟨v230, rfl, ho0, hb, hkp⟩;refine ⟨_, rfl, ?_⟩;have n0_ := Aside0.mk (Kd.R_mono (ok' := fun k_ => (P3_ k_ ∨ w.heap.size ≤ k_) ∧ some k_ ≠ (v230 : Value).ownBlock) (Kd.R_keptB (HO_3.out) hkp (fun k_ hk_ hs_ => (hk_.2) hs_)) (fun k_ hk_ => ⟨hk_.1.1, fun e_ => Or.elim (ho0.1 k_ e_.symm) (fun hs_ => hk_.2.1 hs_) (fun hn_ => Nat.not_le.2 hk_.2.2 hn_)⟩));have n1_ := Aside0.mk (blk_kept (by exact kP BK217.out) hkp (fun hs_ => (fun e_ => (Kd.R_ne HO_11.out BK217.out (by decide)) e_) hs_));have n2_ := Aside0.mk (Kd.R_mono (ok' := fun k_ => (P3_ k_ ∨ w.heap.size ≤ k_) ∧ some k_ ≠ (.slice Ao14 x3_1.length co14 : Value).ownBlock) ho0 (fun k_ hk_ => ⟨Or.elim hk_ (fun hs_ => (HO_11.out.1 k_ (hs_).symm).1) (fun hn_ => (.inr (Nat.le_trans (by first | exact HK.out.1 | exact (show Kept w _ (fun k_ => P3_ k_) from by exact kE).1) hn_))), Or.elim hk_ (fun hs_ => fun e_ => (((HO_3.out).1 k_ e_.symm).2) hs_) (fun hn_ => (Kd.fresh' (Kd.R_lt (by exact rP HO_3.out)) k_ hn_))⟩));have n3_ := Aside0.mk (Kept.then_ (S := (fun k_ => P3_ k_)) (by exact kE) hkp (fun k_ hs_ => (fun e_ => (HO_11.out.1 k_ e_.symm).1) hs_));have n4_ := Aside0.mk (hb);clear HO_3;clear BK217;clear HK;clear HB;clear HO_11;have HO_3 := n0_;have BK217 := n1_;have HO231 := n2_;have HK := n3_;have HB := n4_;clear n0_ n1_ n2_ n3_ n4_;(try clear hb);(try clear hkp);(try clear ho0)))
            (try simp only [← hl3_1])
            go_roundg kj16
            case measure => have := HK1.out;have := HJ16.out;omega
            case rel => exact ⟨(x3_1), (wrap64 (x24_1 + 1)), (by first | rfl | (simp;done) | (simp [*];done)), H', ⟨by have := HK1.out;have := HJ16.out;omega⟩, ⟨by (try simp only [hl3_1]);refine rP ?_;exact Kd.R_mono HO_3.out (fun _ hk => hk.1)⟩, ⟨by (try simp only [hl3_1]);exact kP BK217.out⟩, ⟨by exact kE⟩, ⟨by exact bB⟩⟩
          ·replace c29 := Bool.eq_false_iff.mpr c29
           subst c29
           have H1 : (impl_net_coverBy.l0 kj16 a1 a2 x3_1 ji10 (wrap64 (x24_1 + 1)) l0_0) = some (r1, r2) := by rw [if_neg (show ¬ (false = true) by decide)] at H;exact H
           clear H
           have H := H1
           clear H1
           have H' := Aside0.mk H
           clear H
           try go_wp2
           have n0_ := Aside0.mk (Kd.R_drew HO_3.out)
           have n1_ := Aside0.mk (Kd.R_drew HO_11.out)
           have n2_ := Aside0.mk (blk_drew BK217.out)
           have n3_ := Aside0.mk (Kept.drew HK.out)
           have n4_ := Aside0.mk (below_drew1 HB.out)
           clear HO_3
           clear HO_11
           clear BK217
           clear HK
           clear HB
           have HO_3 := n0_
           have HO_11 := n1_
           have BK217 := n2_
           have HK := n3_
           have HB := n4_
           clear n0_ n1_ n2_ n3_ n4_
           obtain ⟨Ao49, co49, eo49⟩ := Kd.R_slice HO_11.out
           (first | subst eo49 | (injection eo49 with f1_ f2_ f3_;have f4_ := f1_.symm;have f5_ := f3_.symm;clear f1_ f2_ f3_;subst f4_;subst f5_))
           have p225 : 0 ≤ (x24_1 : Int) := oA
           have q225 : x24_1 < (x11_16.length : Int) := oA
           obtain ⟨ad225, e225, hx225_0⟩ := Kd.at_int (Kd.R_reads' HO_11.out).2.2 x24_1 p225 q225
           cases e225
           replace p225 := eq_true p225
           replace q225 := eq_true q225
           have p27 : 0 ≤ (x24_1 : Int) := oA
           have q27 : (x24_1 : Int) < ((x11_16.length : Int) : Int) := oA
           obtain ⟨go27, co27, eo27, gb27, gl27, cl27, HG27⟩ := Kd.R_form HO_11.out (by omega)
           (first | cases eo27 | (injection eo27 with ea_ en_ ec_;(first | subst ea_ | (injection ea_ with ea_;subst ea_));subst ec_;clear en_))
           have GB27 := Aside0.mk gb27
           have GG27 := Aside0.mk HG27
           clear gb27 gl27 HG27
           have HMgo27 := Aside0.mk (show (P3_ go27 ∨ w.heap.size ≤ go27) from (HO_11.out.1 _ rfl).1)
           (first | simp only [add_plain] at hx225_0 | skip)
           obtain ⟨hx27_0, hf27_0⟩ := Kd.R_celln 0 HO_11.out (x24_1 : Int) p27 q27
           replace p27 := eq_true p27
           replace q27 := eq_true q27
           have HP50 := Kd.R_putn HO_11.out (x24_1 : Int) (Go.bits .or .i64 (rd x11_16 x24_1) (ji26))
           rw [← Ny226.out] at HP50
           have HQ50 := Aside0.mk HP50
           clear HP50
           refine start_ (n := 9) (S := fun w' => w'.cell? ⟨go27, (x24_1).toNat, none⟩ = some (.int .i64 (rd x11_16 x24_1))) (ds := [8]) #[false,false,false,false,false,false,false,false,false] (by kernel_rfl) rfl rfl (hx225_0) (fun hHeld => ?_);refine with_tabW impl_net_coverBy.tab9 impl_net_coverBy.bits9 (fun HT_ HW_ => ?_)
           generalize wc.drew = w48 at HO_3 HO_11 BK217 HK HB GG27 HQ50 hf27_0 hx225_0 hx27_0 hHeld ⊢
           refine pure_ (i := 0) (N := some 36) (v := ?_) (a' := ?_) #[true,false,false,false,false,false,false,false,false] rfl rfl (any_of HT_.out (by kernel_rfl)) (fun _ _ _ h => h) (Or.inl ⟨by rfl, ?_⟩) ?_ ?_
           rotate_left
           ·intro w'
            go_simp
            with_reducible rfl
           rotate_left
           ·simp only [Act.put, List.setIfInBounds_toArray, List.set_cons_zero, List.set_cons_succ, i64_w, i32_w]
            rfl
           refine pure_ (i := 1) (N := some 37) (v := ?_) (a' := ?_) #[true,true,false,false,false,false,false,false,false] rfl rfl (any_of HT_.out (by kernel_rfl)) (fun _ _ _ h => h) (Or.inl ⟨by rfl, ?_⟩) ?_ ?_
           rotate_left
           ·intro w'
            go_simp
            with_reducible rfl
           rotate_left
           ·simp only [Act.put, List.setIfInBounds_toArray, List.set_cons_zero, List.set_cons_succ, i64_w, i32_w]
            rfl
           refine pure_ (i := 2) (N := some 38) (v := ?_) (a' := ?_) #[true,true,true,false,false,false,false,false,false] rfl rfl (any_of HT_.out (by kernel_rfl)) (fun _ _ _ h => h) (Or.inl ⟨by rfl, ?_⟩) ?_ ?_
           rotate_left
           ·intro w'
            go_simp
            with_reducible rfl
           rotate_left
           ·simp only [Act.put, List.setIfInBounds_toArray, List.set_cons_zero, List.set_cons_succ, i64_w, i32_w]
            rfl
           refine pure_ (i := 4) (N := some 40) (v := ?_) (a' := ?_) #[true,true,true,false,true,false,false,false,false] rfl rfl (any_of HT_.out (by kernel_rfl)) (fun _ _ _ h => h) (Or.inl ⟨by rfl, ?_⟩) ?_ ?_
           rotate_left
           ·intro w'
            go_simp
            with_reducible rfl
           rotate_left
           ·simp only [Act.put, List.setIfInBounds_toArray, List.set_cons_zero, List.set_cons_succ, i64_w, i32_w]
            rfl
           refine pure_ (i := 5) (N := some 41) (v := ?_) (a' := ?_) #[true,true,true,false,true,true,false,false,false] rfl rfl (any_of HT_.out (by kernel_rfl)) (fun _ _ _ h => h) (Or.inl ⟨by rfl, ?_⟩) ?_ ?_
           rotate_left
           ·intro w'
            go_simp
            with_reducible rfl
           rotate_left
           ·simp only [Act.put, List.setIfInBounds_toArray, List.set_cons_zero, List.set_cons_succ, i64_w, i32_w]
            rfl
           refine take_ (i := 3) (N := some 39) (v := ?_) (a' := ?_) #[true,true,true,true,true,true,false,false,false] rfl rfl (take_ofW HT_.out HW_.out (by kernel_rfl)) (fun _ _ _ h => h) (Or.inl ⟨by rfl, ?_⟩) hHeld ?_ ?_
           rotate_left
           ·intro w' s0
            go_simp
            with_reducible rfl
           rotate_left
           ·simp only [Act.put, List.setIfInBounds_toArray, List.set_cons_zero, List.set_cons_succ, i64_w, i32_w]
            rfl
           refine pure_ (i := 6) (N := some 42) (v := ?_) (a' := ?_) #[true,true,true,true,true,true,true,false,false] rfl rfl (any_of HT_.out (by kernel_rfl)) (fun _ _ _ h => h) (Or.inl ⟨by rfl, ?_⟩) ?_ ?_
           rotate_left
           ·intro w'
            go_simp
            with_reducible rfl
           rotate_left
           ·simp only [Act.put, List.setIfInBounds_toArray, List.set_cons_zero, List.set_cons_succ, i64_w, i32_w]
            rfl
           refine pure_ (i := 7) (N := some 43) (v := ?_) (a' := ?_) #[true,true,true,true,true,true,true,true,false] rfl rfl (any_of HT_.out (by kernel_rfl)) (fun _ _ _ h => h) (Or.inl ⟨by rfl, ?_⟩) ?_ ?_
           rotate_left
           ·intro w'
            go_simp
            with_reducible rfl
           rotate_left
           ·simp only [Act.put, List.setIfInBounds_toArray, List.set_cons_zero, List.set_cons_succ, i64_w, i32_w]
            rfl
           refine last_ (i := 8) (N := none) #[true,true,true,true,true,true,true,true,true] rfl rfl (one_of HT_.out (by kernel_rfl)) (by decide) (fun K hK => ?_)
           refine skip_ (w1 := ?_) (by rfl) rfl ?_ ?_
           rotate_left
           ·go_simp
            rfl
           refine hK.out _ _ ?_
           clear hK K
           refine done_ (done_of HT_.out (by kernel_rfl)) ?_
           try go_wp2
           have n0_ : Aside0 (Kd.R (Kd.int .i64) 3 (w48.setCell ⟨go27, (x24_1 : Int).toNat, none⟩ (.int .i64 (Go.bits .or .i64 (rd x11_16 x24_1) (ji26)))) w0.heap.size (fun k_ => (P3_ k_ ∨ w.heap.size ≤ k_) ∧ some k_ ≠ (.slice (some ⟨go27, 0, none⟩) x11_16.length co49 : Value).ownBlock) (.slice Ao14 x3_1.length co14) x3_1) := ⟨by refine rP ?_;exact Kd.R_mono (Kd.R_far (p := ⟨go27, (x24_1 : Int).toNat, none⟩) (Kd.R_mono HO_3.out (fun k_ hk => (⟨hk, fun e_ => hk.2 (by rw [e_];rfl)⟩ : _ ∧ k_ ≠ go27))) (fun _ hk => hk.2) (.int .i64 (Go.bits .or .i64 (rd x11_16 x24_1) (ji26)))) (fun _ hk => ⟨hk.1.1, hk.1.2⟩)⟩
           have n1_ : Aside0 (Kd.R (Kd.int .i64) 3 (w48.setCell ⟨go27, (x24_1 : Int).toNat, none⟩ (.int .i64 (Go.bits .or .i64 (rd x11_16 x24_1) (ji26)))) w0.heap.size (fun k_ => (P3_ k_ ∨ w.heap.size ≤ k_) ∧ some k_ ≠ (.slice Ao14 x3_1.length co14 : Value).ownBlock) (.slice (some ⟨go27, 0, none⟩) x11_16.length co49) y226) := ⟨by exact rP HQ50.out⟩
           have n2_ : Aside0 ((w48.setCell ⟨go27, (x24_1 : Int).toNat, none⟩ (.int .i64 (Go.bits .or .i64 (rd x11_16 x24_1) (ji26)))).heap[gb217]? = some (.cells #[.slice A0_0 l0_0.length c0_0] 56 (0, 0))) := ⟨by refine kP ?_;refine blk_far ?_ (by have h_ := Kd.R_ne HO_11.out BK217.out (by decide);intro e_;exact h_ (by rw [e_];rfl)) _;exact kP BK217.out⟩
           have n3_ : Aside0 (Kept w (w48.setCell ⟨go27, (x24_1 : Int).toNat, none⟩ (.int .i64 (Go.bits .or .i64 (rd x11_16 x24_1) (ji26)))) (fun k_ => P3_ k_)) := ⟨by repeat (first | (with_reducible first | exact HK.out | apply Kept.alloc | apply Kept.drewN | apply Kept.drew | refine Kept.setCell ?_ HMgo27.out _ | refine Kept.setCell ?_ (.inr GW217.out) _) | exact HK.out)⟩
           have n4_ : Aside0 (Below w0.heap.size w0 (w48.setCell ⟨go27, (x24_1 : Int).toNat, none⟩ (.int .i64 (Go.bits .or .i64 (rd x11_16 x24_1) (ji26))))) := ⟨by repeat (first | (with_reducible first | exact HB.out | apply below_alloc | apply pw_below_drewN | apply below_drew1 | refine below_set ?_ GB27.out | refine below_set ?_ GE217.out) | exact HB.out)⟩
           (try clear HO_3)
           (try clear HO_11)
           (try clear BK217)
           (try clear HK)
           (try clear HB)
           generalize (w48.setCell ⟨go27, (x24_1 : Int).toNat, none⟩ (.int .i64 (Go.bits .or .i64 (rd x11_16 x24_1) (ji26)))) = w51 at n0_ n1_ n2_ n3_ n4_ ⊢
           have HO_3 := n0_
           have HO_11 := n1_
           have BK217 := n2_
           have HK := n3_
           have HB := n4_
           clear n0_ n1_ n2_ n3_ n4_
           have n0_ := Aside0.mk (Kd.R_drew HO_3.out)
           have n1_ := Aside0.mk (Kd.R_drew HO_11.out)
           have n2_ := Aside0.mk (blk_drew BK217.out)
           have n3_ := Aside0.mk (Kept.drew HK.out)
           have n4_ := Aside0.mk (below_drew1 HB.out)
           clear HO_3
           clear HO_11
           clear BK217
           clear HK
           clear HB
           have HO_3 := n0_
           have HO_11 := n1_
           have BK217 := n2_
           have HK := n3_
           have HB := n4_
           clear n0_ n1_ n2_ n3_ n4_
           have p227 : 0 ≤ (x24_1 : Int) := oA
           have q227 : x24_1 < (y226.length : Int) := (by have h_ : (x24_1 : Int) < ((x11_16.length : Int) : Int) := oA;first | (have e_ := (Kd.R_reads' HO_11.out).1;omega) | simpa only [Ny226.out, List.length_set] using h_)
           have ql227 : ((x24_1 : Int) < ((x11_16.length : Int) : Int)) = True := eq_true (oA)
           obtain ⟨ad227, e227, hx227_0⟩ := Kd.at_int (Kd.R_reads' HO_11.out).2.2 x24_1 p227 q227
           obtain rfl : (⟨go27, 0, none⟩ : Addr) = ad227 := (by injection e227)
           (first | simp only [add_plain] at hx227_0 | simp only [add_at] at hx227_0 | simp only [Addr.add, Nat.zero_add] at hx227_0 | skip)
           replace p227 := eq_true p227
           replace q227 := eq_true q227
           refine start_ (n := 7) (S := fun w' => w'.cell? ⟨gb217, 0, none⟩ = some (.slice A0_0 l0_0.length c0_0) ∧ w'.cell? ⟨go27, (x24_1).toNat, none⟩ = some (.int .i64 (rd y226 x24_1))) (ds := []) #[false,false,false,false,false,false,false] (by kernel_rfl) rfl rfl ⟨(blk_cell BK217.out 0).trans rfl, hx227_0⟩ (fun hHeld => ?_)
           generalize w51.drew = w52 at HO_3 HO_11 BK217 HK HB HQ50 hx227_0 hHeld ⊢
           refine pure_ (i := 1) (N := some 45) (v := ?_) (a' := ?_) #[false,true,false,false,false,false,false] rfl rfl (by kernel_rfl) (fun _ _ _ h => h) (Or.inl ⟨by rfl, ?_⟩) ?_ ?_
           rotate_left
           ·intro w'
            go_simp
            with_reducible rfl
           rotate_left
           ·simp only [Act.put, List.setIfInBounds_toArray, List.set_cons_zero, List.set_cons_succ, i64_w, i32_w]
            rfl
           refine pure_ (i := 2) (N := some 46) (v := ?_) (a' := ?_) #[false,true,true,false,false,false,false] rfl rfl (by kernel_rfl) (fun _ _ _ h => h) (Or.inl ⟨by rfl, ?_⟩) ?_ ?_
           rotate_left
           ·intro w'
            go_simp
            with_reducible rfl
           rotate_left
           ·simp only [Act.put, List.setIfInBounds_toArray, List.set_cons_zero, List.set_cons_succ, i64_w, i32_w]
            rfl
           refine pure_ (i := 3) (N := some 47) (v := ?_) (a' := ?_) #[false,true,true,true,false,false,false] rfl rfl (by kernel_rfl) (fun _ _ _ h => h) (Or.inl ⟨by rfl, ?_⟩) ?_ ?_
           rotate_left
           ·intro w'
            go_simp
            with_reducible rfl
           rotate_left
           ·simp only [Act.put, List.setIfInBounds_toArray, List.set_cons_zero, List.set_cons_succ, i64_w, i32_w]
            rfl
           refine take_ (i := 0) (N := some 44) (v := ?_) (a' := ?_) #[true,true,true,true,false,false,false] rfl rfl (by kernel_rfl) (fun _ _ _ h => h) (Or.inl ⟨by rfl, ?_⟩) hHeld ?_ ?_
           rotate_left
           ·rintro w' ⟨s0, s1⟩
            go_simp
            with_reducible rfl
           rotate_left
           ·simp only [Act.put, List.setIfInBounds_toArray, List.set_cons_zero, List.set_cons_succ, i64_w, i32_w]
            rfl
           refine take_ (i := 4) (N := some 48) (v := ?_) (a' := ?_) #[true,true,true,true,true,false,false] rfl rfl (by kernel_rfl) (fun _ _ _ h => h) (Or.inl ⟨by rfl, ?_⟩) hHeld ?_ ?_
           rotate_left
           ·rintro w' ⟨s0, s1⟩
            go_simp
            with_reducible rfl
           rotate_left
           ·simp only [Act.put, List.setIfInBounds_toArray, List.set_cons_zero, List.set_cons_succ, i64_w, i32_w]
            rfl
           refine one_ (i := 5) (N := some 49) #[true,true,true,true,true,true,false] rfl rfl (by kernel_rfl) (by decide) (fun K hK => ?_)
           refine goes_ Try.func77 (by kernel_rfl) rfl #[.agg #[.slice A0_0 l0_0.length c0_0], .int .i64 (rd y226 x24_1)] (by rfl) rfl rfl mM ?_
           with_reducible refine (impl_net_isClique.calls kj16 _ _ l0_0 (rd y226 x24_1) false _ ?side1 ?side2 A28.out).mono ?_
           (case side1 => exact Kd.C_kept_now HR0_0.out (by exact kE))
           (case side2 => exact HC0_0.out)
           rintro e w53 ⟨rfl, hb⟩
           have HS1_ := (hb.cell (World.block_lt_of_cell? _ _ (hHeld.2))).trans (hHeld.2)
           refine ⟨_, rfl, ?_⟩
           have n0_ := Aside0.mk (Kd.R_below (by exact rP HO_3.out) hb)
           have n1_ := Aside0.mk (Kd.R_below (by exact rP HO_11.out) hb)
           have n2_ := Aside0.mk (blk_below (g := gb217) (o := .cells #[.slice A0_0 l0_0.length c0_0] 56 (0, 0)) (by exact kP BK217.out) hb)
           have n3_ := Aside0.mk (Kept.below (S := (fun k_ => P3_ k_)) (by exact kE) hb)
           have n4_ := Aside0.mk (below_step (by exact bB) hb)
           clear HO_3
           clear HO_11
           clear BK217
           clear HK
           clear HB
           have HO_3 := n0_
           have HO_11 := n1_
           have BK217 := n2_
           have HK := n3_
           have HB := n4_
           clear n0_ n1_ n2_ n3_ n4_
           (try clear hb)
           (try clear hb2)
           (try clear hk)
           (try clear hi)
           refine hK.out _ _ ⟨(blk_cell BK217.out 0).trans rfl, HS1_⟩ (fun hHeld => ?_)
           clear hK K
           refine norm_ (a' := ?_) ?_ ?_
           rotate_left
           ·show Act.put _ (some 49) _ = _
            simp only [Act.put, List.setIfInBounds_toArray, List.set_cons_zero, List.set_cons_succ, i64_w, i32_w]
            rfl
           refine pure_ (i := 6) (N := some 50) (v := ?_) (a' := ?_) #[true,true,true,true,true,true,true] rfl rfl (by kernel_rfl) (fun _ _ _ h => h) (Or.inl ⟨by rfl, ?_⟩) ?_ ?_
           rotate_left
           ·intro w'
            go_simp
            with_reducible rfl
           rotate_left
           ·simp only [Act.put, List.setIfInBounds_toArray, List.set_cons_zero, List.set_cons_succ, i64_w, i32_w]
            rfl
           refine done_ (by kernel_rfl) ?_
           try go_wp2
           (try simp only [← hl3_1])
           go_roundg kj16
           case measure => have := HK1.out;have := HJ16.out;omega
           case rel => exact ⟨(x3_1), (wrap64 (x24_1 + 1)), (by first | rfl | (simp;done) | (simp [*];done)), H', ⟨by have := HK1.out;have := HJ16.out;omega⟩, ⟨by (try simp only [hl3_1]);refine rP ?_;exact Kd.R_mono HO_3.out (fun _ hk => hk.1)⟩, ⟨by (try simp only [hl3_1]);exact kP BK217.out⟩, ⟨by exact kE⟩, ⟨by exact bB⟩⟩
         ·rw [if_neg c25] at H
          exact absurd H (by simp)
        ·rw [if_neg c24] at H
         exact absurd H (by simp)
       ·rw [if_neg c23] at H
        exact absurd H (by simp)
    ·rw [if_neg c15] at H
     have c15b0 : decide (x24_1 < ji10) = false := decide_eq_false c15
     clear c15
     simp only [Option.some.injEq, Prod.mk.injEq] at H
     obtain ⟨rfl, rfl⟩ := H
     go_wp2
     go_ret2
     exact ⟨_, by first | rfl | (simp [errW_none, errW_some] <;> rfl) | (simp only [← hji10];first | rfl | (simp [errW_none, errW_some] <;> rfl)) | (simp [*, errW_none, errW_some] <;> rfl), by first | exact Kd.R_nil _ _ _ _ _ | exact Kd.N_nil _ _ _ _ _ | exact Kd.V_nil _ _ _ _ _ | exact Kd.Q_nil _ _ _ _ _ | exact Kd.S_nil _ _ _ _ _, by exact bB, by exact kE⟩




end Go.Proofs.Ytaddgielnfhhpaa.QLeastCliqueCover
