import Derived.Test.YtaddgielnfhhpaaQBurningNumber0
import Derived.Test.YtaddgielnfhhpaaQBurningNumber1
import Derived.Test.YtaddgielnfhhpaaQBurningNumber4
namespace Go.Proofs.Ytaddgielnfhhpaa.QBurningNumber
open Go.RowKit Go.Proofs.YtaddgielnfhhpaaW.PrintWords Go.Proofs.YtaddgielnfhhpaaW.PrintLast Go.Proofs.YtaddgielnfhhpaaW.PrintMore
attribute [local go_sem] max2_int min2_int max_two min_two max_three min_three max_four min_four   -- for this text's walks alone
set_option linter.unusedVariables false
set_option linter.unusedSimpArgs false
/-! ### spec_l2Within: function 72 -/
def spec_l2Within.l0 : Nat → Int → List Int → List Int → Int → Int → List (S80) → Option (List Int)
 | 0, _, _, _, _, _, _ => none
 | k + 1, x2, x7, x8, x9, x156000, x156001 => if x9 < x156000 then (if 0 ≤ x9 then (if x9 < (x8.length : Int) then ((spec_l1In.f (rd x8 x9) 0 x2).bind fun t164 => (if t164 = true then (if x7.length < 17592186044416 then (spec_l2Within.l0 k x2 (x7 ++ [x9]) x8 (wrap64 (x9 + 1)) x156000 x156001) else (none)) else (spec_l2Within.l0 k x2 x7 x8 (wrap64 (x9 + 1)) x156000 x156001))) else (none)) else (none)) else (some x7)
def spec_l2Within.f (k : Nat) (a0_0 : Int) (l0_1 : List (S80)) (a1 : Int) (a2 : Int) : Option (List Int) := (spec_l2Dist.f k a0_0 l0_1).bind fun t159 => (if 0 ≤ a1 then (if a1 < (t159.length : Int) then (spec_l2Within.l0 k a2 (([] : List Int)) (rd_L2 t159 a1) 0 a0_0 l0_1) else (none)) else (none))
theorem spec_l2Within.mono_l : ∀ k, (∀ y0 y1 y2 y3 y4 y5, LeO (spec_l2Within.l0 k y0 y1 y2 y3 y4 y5) (spec_l2Within.l0 (k + 1) y0 y1 y2 y3 y4 y5))
 | 0 => fun _ _ _ _ _ _ r h => by simp [spec_l2Within.l0] at h
 | k + 1 => by
  have ih0 := spec_l2Within.mono_l k
  ·intro y0 y1 y2 y3 y4 y5
   unfold spec_l2Within.l0
   repeat' first
   | (with_reducible exact ih0 _ _ _ _ _ _)
   | (with_reducible exact spec_l2Dist.mono _ _ _)
   | (with_reducible exact LeO.refl _)
   | (with_reducible exact LeO.none _)
   | (with_reducible refine LeO.ite ?_ ?_)
   | (with_reducible refine LeO.bind ?_ (fun _ => ?_))
   | exact ih0 _ _ _ _ _ _
   | exact spec_l2Dist.mono _ _ _
   | exact LeO.none _
   | refine LeO.ite ?_ ?_
   | refine LeO.bind ?_ (fun _ => ?_)
theorem spec_l2Within.mono : ∀ a0 a1 a2 a3 k, LeO (spec_l2Within.f k a0 a1 a2 a3) (spec_l2Within.f (k + 1) a0 a1 a2 a3) := by
 intro a0 a1 a2 a3 k
 have ih0 := spec_l2Within.mono_l k
 unfold spec_l2Within.f
 repeat' first
   | (with_reducible exact ih0 _ _ _ _ _ _)
   | (with_reducible exact spec_l2Dist.mono _ _ _)
   | (with_reducible exact LeO.refl _)
   | (with_reducible exact LeO.none _)
   | (with_reducible refine LeO.ite ?_ ?_)
   | (with_reducible refine LeO.bind ?_ (fun _ => ?_))
   | exact ih0 _ _ _ _ _ _
   | exact spec_l2Dist.mono _ _ _
   | exact LeO.none _
   | refine LeO.ite ?_ ?_
   | refine LeO.bind ?_ (fun _ => ?_)
def spec_l2Within.T1 : Bool × List (List Nat × List Nat) := (true, [([], []), ([], []), ([1], [1]), ([], []), ([2, 3], [2, 3]), ([4], [4]), ([0, 2, 0], [0]), ([5, 6, 0, 1, 2, 3, 4, 5, 6], [5])])
def spec_l2Within.B1 : List Nat := [0, 0, 2, 0, 14, 30, 7, 127]
theorem spec_l2Within.tab1 : rtab .any (opsOf Try.f72 1) = spec_l2Within.T1 := by kernel_rfl
theorem spec_l2Within.bits1 : waitsOk spec_l2Within.T1.2 spec_l2Within.B1 = true := by kernel_rfl
set_option maxHeartbeats 8000000 in
set_option maxRecDepth 100000 in
theorem spec_l2Within.calls (k : Nat) (a0_0 : Int) (A0_1 : Option Addr) (c0_1 : Nat) (l0_1 : List (S80)) (a1 : Int) (a2 : Int) (r : List Int) (w : World) (hr0_1 : Kd.C k80 w A0_1 l0_1.length l0_1) (hc0_1 : l0_1.length ≤ c0_1) (h : spec_l2Within.f k a0_0 l0_1 a1 a2 = some r) :
  Calls Try.prog 72 #[.agg #[.int .i64 a0_0, .slice A0_1 l0_1.length c0_1], .int .i64 a1, .int .i64 a2] w fun e w' => ∃ v0_ : Value, e = .returned (v0_) ∧ Kd.R (Kd.int .i64) 3 w' w.heap.size (fun _ => True) v0_ r ∧ Below w.heap.size w w' := by
 have hu28 := Try.underlying29
 have HR0_1 := Aside0.mk hr0_1
 have HC0_1 := Aside0.mk hc0_1
 clear hr0_1 hc0_1
 have HB := Aside0.mk (Below.refl w.heap.size w)
 have H : ((spec_l2Dist.f k a0_0 l0_1).bind fun t159 => (if 0 ≤ a1 then (if a1 < (t159.length : Int) then (spec_l2Within.l0 k a2 (([] : List Int)) (rd_L2 t159 a1) 0 a0_0 l0_1) else (none)) else (none))) = some r := h
 clear h
 obtain ⟨y156, hy156⟩ : ∃ y_ : List Int, y_ = (([] : List Int)) := ⟨_, rfl⟩
 replace H : ((spec_l2Dist.f k a0_0 l0_1).bind fun t159 => (if 0 ≤ a1 then (if a1 < (t159.length : Int) then (spec_l2Within.l0 k a2 y156 (rd_L2 t159 a1) 0 a0_0 l0_1) else (none)) else (none))) = some r := by first | (rw [hy156];with_reducible exact H) | (have H2_ := (Option.bind_some _ _).symm.trans H;rw [hy156];with_reducible exact H2_) | (have H2_ := (Option.bind_some _ _).symm.trans H;with_reducible exact H2_) | with_reducible exact H | (rw [hy156];exact H) | exact H
 have Ny156 := Aside0.mk hy156
 clear hy156
 replace H := Option.bind_eq_some_iff.mp H
 obtain ⟨t159, A40, H⟩ := H
 replace H : (if 0 ≤ a1 then (if a1 < (t159.length : Int) then (spec_l2Within.l0 k a2 y156 (rd_L2 t159 a1) 0 a0_0 l0_1) else (none)) else (none)) = some r := H
 have A4 := Aside0.mk A40
 clear A40
 by_cases c5 : 0 ≤ a1
 ·rw [if_pos c5] at H
  have c5b0 : decide (0 ≤ a1) = true := decide_eq_true c5
  clear c5
  by_cases c6 : a1 < (t159.length : Int)
  ·rw [if_pos c6] at H
   have c6b0 : decide (a1 < (t159.length : Int)) = true := decide_eq_true c6
   clear c6
   have H' := Aside0.mk H
   clear H
   go_enter Try.func72, Try.ntmps72
   try go_wp2_with (first | ((with_reducible refine gate_dst (N := 3) rfl ?_);refine box_event ?hg (N := 3) ?hd (cs := #[.int .i64 a0_0, .slice A0_1 l0_1.length c0_1]) (t := 29) ?hr ?_;(case hd => rfl);(case hg => rfl);(case hr => first | (go_simp;done) | (go_simp;rfl));intro gb155 hg w7 hbox hb;have n0_ := Aside0.mk (below_step (by exact bB) hb);have n1_ := Aside0.mk (hbox);have n2_ := Aside0.mk ((by rw [hg];exact (below_size (by exact bB)) : w.heap.size ≤ gb155));have n3_ := Aside0.mk ((by rw [hg];exact (below_size (by exact bB)) : w.heap.size ≤ gb155));clear HB;have HB := n0_;have BK155 := n1_;have GW155 := n2_;have GE155 := n3_;clear n0_ n1_ n2_ n3_;clear hb hbox hg))
   have n0_ := Aside0.mk (blk_drew BK155.out)
   have n1_ := Aside0.mk (below_drew1 HB.out)
   clear BK155
   clear HB
   have BK155 := n0_
   have HB := n1_
   clear n0_ n1_
   refine start_ (n := 8) (S := fun w' => True) (ds := []) #[false,false,false,false,false,false,false,false] (by kernel_rfl) rfl rfl trivial (fun hHeld => ?_);refine with_tabW spec_l2Within.tab1 spec_l2Within.bits1 (fun HT_ HW_ => ?_)
   generalize w7.drew = w8 at BK155 HB hHeld ⊢
   refine pure_ (i := 3) (N := some 13) (v := ?_) (a' := ?_) #[false,false,false,true,false,false,false,false] rfl rfl (any_of HT_.out (by kernel_rfl)) (fun _ _ _ h => h) (Or.inl ⟨by rfl, ?_⟩) ?_ ?_
   rotate_left
   ·intro w'
    go_simp
    with_reducible rfl
   rotate_left
   ·simp only [Act.put, List.setIfInBounds_toArray, List.set_cons_zero, List.set_cons_succ, i64_w, i32_w]
    rfl
   refine inv_at [0, 1, 2, 4, 5, 6, 7] (fun a0_ b a w' => ∃ (v157 : Value) (v160 : Value) (m6_ : Value) (m4_ : Value) (m5_ : Value) (m7_ : Value) (adz : Addr) (A16 : Option Addr) (c16 : Nat), a = putSel a0_ b [(0, 10, v157), (1, 11, .agg #[.int .i64 a0_0, .slice A0_1 l0_1.length c0_1]), (2, 12, v160), (4, 14, m4_), (5, 15, m5_), (6, 7, m6_), (7, 8, m7_)] ∧ (w'.heap[gb155]? = some (.cells #[.int .i64 a0_0, .slice A0_1 l0_1.length c0_1] 29 (0, 0))) ∧ (Below w.heap.size w w') ∧ (b 0 = true → Kd.R (Kd.int .i64) 3 w' w.heap.size (fun _ => True) v157 y156) ∧ (b 2 = true → Kd.S (Kd.slice 3 (Kd.int .i64)) 25 w' w.heap.size (fun _ => True) v160 t159) ∧ (b 6 = true → (m6_ : Value) = v157) ∧ (b 2 = true → ∃ c_, v160 = .slice (some adz) t159.length c_) ∧ (b 2 = true → w'.cell? (adz.add (a1).toNat) = some (.slice A16 (rd_L2 t159 a1).length c16)) ∧ (b 0 = true → b 2 = true → Kd.S (Kd.slice 3 (Kd.int .i64)) 25 w' w.heap.size (fun k_ => some k_ ≠ (v157 : Value).ownBlock) v160 t159) ∧ (b 4 = true → (m4_ : Value) = .pointer (some (adz.add (a1).toNat))) ∧ (b 5 = true → (m5_ : Value) = .slice A16 (rd_L2 t159 a1).length c16) ∧ (b 7 = true → (m7_ : Value) = .slice A16 (rd_L2 t159 a1).length c16)) HT_.out HW_.out (by kernel_rfl) (by kernel_rfl) ?_ ?_ ?_
   ·exact ⟨.bool false, .bool false, .bool false, .bool false, .bool false, .bool false, ⟨0, 0, none⟩, none, 0, by simp only [putSel, Bool.false_eq_true, if_false], BK155.out, HB.out, fun h_ => absurd h_ (by decide), fun h_ => absurd h_ (by decide), fun h_ => absurd h_ (by decide), fun h_ => absurd h_ (by decide), fun h_ => absurd h_ (by decide), fun h_ => absurd h_ (by decide), fun h_ => absurd h_ (by decide), fun h_ => absurd h_ (by decide), fun h_ => absurd h_ (by decide)⟩
   ·skip
    clear BK155 HB
    refine steps_cons ?_ ?_
    ·rintro b a w' ⟨v157, v160, m6_, m4_, m5_, m7_, adz, A16, c16, ha, Q_BK155, Q_HB, Q_HO158, Q_HO161, Q_X6_, Q_SL, Q_CE, Q_AP, Q_X4_, Q_X5_, Q_X7_⟩ hb_ hon hoff
     refine ⟨_, rfl, fun K hK => ?_⟩
     replace ha := Aside0.mk ha
     have BK155 := Aside0.mk Q_BK155
     have HB := Aside0.mk Q_HB
     refine Kd.R_lit_step (Kd.int .i64) _ 3 ?hg (N := 10) ?hd (xs := ([] : List Int)) (inner := []) (ok := fun _ => True) (okp := fun _ => True) ?hr ?hp (fun _ hk => hk) trivial (Below.refl _ _) (Nat.le_refl _) (by simp) ?_;(case hd => rfl);(case hg => rfl);(case hr => first | (go_simp;done) | (go_simp;rfl));(case hp => exact (Reps.none _ _))
     intro v157 w9 ho10 hb hg_ hnew_
     clear hg_ hnew_
     (first | rw [← Ny156.out] at ho10 | (simp only [Int.reduceToNat] at ho10;rw [← Ny156.out] at ho10))
     have n0_ := Aside0.mk (Kd.R_lower ho10 (below_size (by exact bB)))
     have n1_ := Aside0.mk (blk_below (g := gb155) (o := .cells #[.int .i64 a0_0, .slice A0_1 l0_1.length c0_1] 29 (0, 0)) (by exact kP BK155.out) hb)
     have n2_ := Aside0.mk (below_step (by exact bB) hb)
     have z_HO161 := fun (h0_ : b 2 = true) => (show Kd.S (Kd.slice 3 (Kd.int .i64)) 25 w9 w.heap.size (fun _ => True) v160 t159 from by first | exact (Kd.S_elder' (by (with_reducible repeat (first | apply Kd.S_alloc | apply Kd.S_drewN | apply Kd.S_drew));exact (Q_HO161 h0_)) (Kd.R_base ho10) hb) | exact Kd.S_mono (Kd.S_elder' (by (with_reducible repeat (first | apply Kd.S_alloc | apply Kd.S_drewN | apply Kd.S_drew));exact (Q_HO161 h0_)) (Kd.R_base ho10) hb) (fun _ h_ => by first | trivial | exact h_ | exact h_.1))
     clear BK155
     clear HB
     have HO158 := n0_
     have BK155 := n1_
     have HB := n2_
     clear n0_ n1_ n2_
     have z_CE := fun (h0_ : b 2 = true) => pw_cell_below hb (Q_CE h0_)
     have z_AP := fun (h0_ : b 2 = true) => Kd.S_mono (ok' := fun k_ => some k_ ≠ (v157 : Value).ownBlock) (Kd.S_elder' (Q_HO161 h0_) (Kd.R_base ho10) hb) (fun _ h => h.2)
     clear hb ho10
     refine hK.out _ _ ⟨v157, v160, m6_, m4_, m5_, m7_, adz, A16, c16, (by rw [ha.out];exact putSel_upk 0 hb_ rfl rfl rfl), (by exact kP BK155.out), (by exact bB), fun _ => (by exact rP HO158.out), z_HO161, fun h0_ => absurd ((hoff 6 (by kernel_rfl)).symm.trans h0_) (by decide), Q_SL, z_CE, fun _ h0_ => z_AP h0_, Q_X4_, Q_X5_, Q_X7_⟩
    refine steps_cons ?_ ?_
    ·rintro b a w' ⟨v157, v160, m6_, m4_, m5_, m7_, adz, A16, c16, ha, Q_BK155, Q_HB, Q_HO158, Q_HO161, Q_X6_, Q_SL, Q_CE, Q_AP, Q_X4_, Q_X5_, Q_X7_⟩ hb_ hon hoff
     refine ⟨_, rfl, fun K hK => ?_⟩
     have e3 : a.tmps[3]? = some (.pointer (some ⟨gb155, 0, none⟩)) := by rw [ha];exact (putSel_off rfl).trans rfl
     replace ha := Aside0.mk ha
     have BK155 := Aside0.mk Q_BK155
     have HB := Aside0.mk Q_HB
     have hc0_ : w'.cell? ⟨gb155, 0, none⟩ = some (.int .i64 a0_0) := (blk_cell BK155.out 0).trans rfl
     have hc1_ : w'.cell? ⟨gb155, 1, none⟩ = some (.slice A0_1 l0_1.length c0_1) := (blk_cell BK155.out 1).trans rfl
     refine value_ (w1 := w') (v := .agg #[.int .i64 a0_0, .slice A0_1 l0_1.length c0_1]) (by rfl) rfl ?_ ?_
     ·go_simp
      (try simp only [i64_w])
      try rfl
     refine hK.out _ _ ⟨v157, v160, m6_, m4_, m5_, m7_, adz, A16, c16, (by rw [ha.out];exact putSel_upk 1 hb_ rfl rfl rfl), Q_BK155, Q_HB, Q_HO158, fun h0_ => absurd ((hoff 2 (by kernel_rfl)).symm.trans h0_) (by decide), fun h0_ => absurd ((hoff 6 (by kernel_rfl)).symm.trans h0_) (by decide), fun h0_ => absurd ((hoff 2 (by kernel_rfl)).symm.trans h0_) (by decide), fun h0_ => absurd ((hoff 2 (by kernel_rfl)).symm.trans h0_) (by decide), fun _ h0_ => absurd ((hoff 2 (by kernel_rfl)).symm.trans h0_) (by decide), Q_X4_, Q_X5_, Q_X7_⟩
    refine steps_cons ?_ ?_
    ·rintro b a w' ⟨v157, v160, m6_, m4_, m5_, m7_, adz, A16, c16, ha, Q_BK155, Q_HB, Q_HO158, Q_HO161, Q_X6_, Q_SL, Q_CE, Q_AP, Q_X4_, Q_X5_, Q_X7_⟩ hb_ hon hoff
     refine ⟨_, rfl, fun K hK => ?_⟩
     have e11 : a.tmps[11]? = some (.agg #[.int .i64 a0_0, .slice A0_1 l0_1.length c0_1]) := by rw [ha];exact putSel_on (e := (1, 11, .agg #[.int .i64 a0_0, .slice A0_1 l0_1.length c0_1])) 1 rfl rfl (hon 1 (by kernel_rfl)) rfl
     replace ha := Aside0.mk ha
     have BK155 := Aside0.mk Q_BK155
     have HB := Aside0.mk Q_HB
     refine goes_ Try.func102 (by kernel_rfl) rfl #[.agg #[.int .i64 a0_0, .slice A0_1 l0_1.length c0_1]] (by rfl) rfl rfl (by first | (simp only [List.map_toArray, List.map_cons, List.map_nil, Act.eval, Array.getD_eq_getD_getElem?, Option.getD_some, e11];done) | (simp only [List.map_toArray, List.map_cons, List.map_nil, Act.eval, Array.getD_eq_getD_getElem?, Option.getD_some, e11];rfl)) ?_
     with_reducible refine (spec_l2Dist.calls k a0_0 _ _ l0_1 t159 _ ?side1 ?side2 A4.out).mono ?_
     (case side1 => exact cP (Kd.C_below HR0_1.out HB.out))
     (case side2 => exact HC0_1.out)
     rintro e w9 ⟨v160, rfl, ho0, hb⟩
     have z_AP := fun (h0_ : b 0 = true) => Kd.S_mono (ok' := fun k_ => some k_ ≠ (v157 : Value).ownBlock) (Kd.S_lower (Kd.S_new' ho0 (Kd.R_lt (Q_HO158 h0_))) (below_size HB.out)) (fun _ h => h.2)
     obtain ⟨Az_, cz_, ez_⟩ := Kd.S_slice ho0
     have ho1_ := ho0
     rw [ez_] at ho1_
     obtain ⟨adn, An, cn, en, hxn, _, _⟩ := at_L2 (Kd.S_reads' ho1_).2.2 a1 (oA) (oA)
     refine ⟨_, rfl, ?_⟩
     have n0_ := Aside0.mk (Kd.S_lower ho0 (below_size (by exact bB)))
     have n1_ := Aside0.mk (blk_below (g := gb155) (o := .cells #[.int .i64 a0_0, .slice A0_1 l0_1.length c0_1] 29 (0, 0)) (by exact kP BK155.out) hb)
     have n2_ := Aside0.mk (below_step (by exact bB) hb)
     have z_HO158 := fun (h0_ : b 0 = true) => (show Kd.R (Kd.int .i64) 3 w9 w.heap.size (fun _ => True) v157 y156 from by first | exact (Kd.R_below (by refine rP ?_;exact (Q_HO158 h0_)) hb) | exact Kd.R_mono (Kd.R_below (by refine rP ?_;exact (Q_HO158 h0_)) hb) (fun _ h_ => by first | trivial | exact h_ | exact h_.1))
     clear BK155
     clear HB
     have HO161 := n0_
     have BK155 := n1_
     have HB := n2_
     clear n0_ n1_ n2_
     (try clear hb)
     (try clear hb2)
     (try clear hk)
     (try clear hi)
     (try clear ho0)
     refine hK.out _ _ ⟨v157, v160, m6_, m4_, m5_, m7_, adn, An, cn, (by rw [ha.out];exact putSel_upk 2 hb_ rfl rfl rfl), (by exact kP BK155.out), (by exact bB), z_HO158, fun _ => (by (with_reducible repeat (first | apply Kd.S_alloc | apply Kd.S_drewN | apply Kd.S_drew));exact HO161.out), fun h0_ => absurd ((hoff 6 (by kernel_rfl)).symm.trans h0_) (by decide), fun _ => ⟨cz_, ez_.trans (by first | rw [en] | (subst en;rfl))⟩, fun _ => hxn, fun h0_ _ => z_AP h0_, fun h0_ => absurd ((hoff 4 (by kernel_rfl)).symm.trans h0_) (by decide), fun h0_ => absurd ((hoff 5 (by kernel_rfl)).symm.trans h0_) (by decide), fun h0_ => absurd ((hoff 7 (by kernel_rfl)).symm.trans h0_) (by decide)⟩
    refine steps_cons ?_ ?_
    ·rintro b a w' ⟨v157, v160, m6_, m4_, m5_, m7_, adz, A16, c16, ha, Q_BK155, Q_HB, Q_HO158, Q_HO161, Q_X6_, Q_SL, Q_CE, Q_AP, Q_X4_, Q_X5_, Q_X7_⟩ hb_ hon hoff
     refine ⟨_, rfl, fun K hK => ?_⟩
     have e12 : a.tmps[12]? = some (v160) := by rw [ha];exact putSel_on (e := (2, 12, v160)) 2 rfl rfl (hon 2 (by kernel_rfl)) rfl
     have e13 : a.tmps[13]? = some (.int .i64 a1) := by rw [ha];exact (putSel_off rfl).trans rfl
     replace ha := Aside0.mk ha
     have BK155 := Aside0.mk Q_BK155
     have HB := Aside0.mk Q_HB
     have HO161 := Aside0.mk (Q_HO161 (hon 2 (by kernel_rfl)))
     obtain ⟨c_, hv_⟩ := (Q_SL (hon 2 (by kernel_rfl)))
     rw [hv_] at e12
     have p_ : (0 ≤ a1) = True := eq_true (of_decide_eq_true c5b0)
     have q_ : (a1 < (t159.length : Int)) = True := eq_true (of_decide_eq_true c6b0)
     refine value_ (w1 := w') (v := .pointer (some (adz.add (a1).toNat))) (by rfl) rfl ?_ ?_
     ·go_simp
      (try simp only [i64_w])
      try rfl
     refine hK.out _ _ ⟨v157, v160, m6_, (.pointer (some (adz.add (a1).toNat))), m5_, m7_, adz, A16, c16, (by rw [ha.out];exact putSel_upk 3 hb_ rfl rfl rfl), Q_BK155, Q_HB, Q_HO158, Q_HO161, Q_X6_, Q_SL, Q_CE, Q_AP, fun _ => rfl, fun h0_ => absurd ((hoff 5 (by kernel_rfl)).symm.trans h0_) (by decide), fun h0_ => absurd ((hoff 7 (by kernel_rfl)).symm.trans h0_) (by decide)⟩
    refine steps_cons ?_ ?_
    ·rintro b a w' ⟨v157, v160, m6_, m4_, m5_, m7_, adz, A16, c16, ha, Q_BK155, Q_HB, Q_HO158, Q_HO161, Q_X6_, Q_SL, Q_CE, Q_AP, Q_X4_, Q_X5_, Q_X7_⟩ hb_ hon hoff
     refine ⟨_, rfl, fun K hK => ?_⟩
     have e14 : a.tmps[14]? = some (m4_) := by rw [ha];exact putSel_on (e := (4, 14, m4_)) 3 rfl rfl (hon 4 (by kernel_rfl)) rfl
     rw [Q_X4_ (hon 4 (by kernel_rfl))] at e14
     replace ha := Aside0.mk ha
     have BK155 := Aside0.mk Q_BK155
     have HB := Aside0.mk Q_HB
     have HO161 := Aside0.mk (Q_HO161 (hon 2 (by kernel_rfl)))
     have hs0_ := Q_CE (hon 2 (by kernel_rfl))
     refine value_ (w1 := w') (v := .slice A16 (rd_L2 t159 a1).length c16) (by rfl) rfl ?_ ?_
     ·go_simp
      (try simp only [i64_w])
      try rfl
     refine hK.out _ _ ⟨v157, v160, m6_, m4_, (.slice A16 (rd_L2 t159 a1).length c16), m7_, adz, A16, c16, (by rw [ha.out];exact putSel_upk 4 hb_ rfl rfl rfl), Q_BK155, Q_HB, Q_HO158, Q_HO161, Q_X6_, Q_SL, Q_CE, Q_AP, Q_X4_, fun _ => rfl, fun h0_ => absurd ((hoff 7 (by kernel_rfl)).symm.trans h0_) (by decide)⟩
    refine steps_cons ?_ ?_
    ·rintro b a w' ⟨v157, v160, m6_, m4_, m5_, m7_, adz, A16, c16, ha, Q_BK155, Q_HB, Q_HO158, Q_HO161, Q_X6_, Q_SL, Q_CE, Q_AP, Q_X4_, Q_X5_, Q_X7_⟩ hb_ hon hoff
     refine ⟨_, rfl, fun K hK => ?_⟩
     have e10 : a.tmps[10]? = some (v157) := by rw [ha];exact putSel_on (e := (0, 10, v157)) 0 rfl rfl (hon 0 (by kernel_rfl)) rfl
     replace ha := Aside0.mk ha
     have BK155 := Aside0.mk Q_BK155
     have HB := Aside0.mk Q_HB
     have HO158 := Aside0.mk (Q_HO158 (hon 0 (by kernel_rfl)))
     have HO161 := Aside0.mk (Q_HO161 (hon 2 (by kernel_rfl)))
     refine value_ (w1 := w') (v := v157) (by rfl) rfl ?_ ?_
     ·go_simp
      (try simp only [i64_w])
      try rfl
     refine hK.out _ _ ⟨v157, v160, (v157), m4_, m5_, m7_, adz, A16, c16, (by rw [ha.out];exact putSel_upk 5 hb_ rfl rfl rfl), Q_BK155, Q_HB, Q_HO158, Q_HO161, fun _ => rfl, Q_SL, Q_CE, Q_AP, Q_X4_, Q_X5_, Q_X7_⟩
    refine steps_cons ?_ ?_
    ·rintro b a w' ⟨v157, v160, m6_, m4_, m5_, m7_, adz, A16, c16, ha, Q_BK155, Q_HB, Q_HO158, Q_HO161, Q_X6_, Q_SL, Q_CE, Q_AP, Q_X4_, Q_X5_, Q_X7_⟩ hb_ hon hoff
     refine ⟨_, rfl, fun K hK => ?_⟩
     have e15 : a.tmps[15]? = some (m5_) := by rw [ha];exact putSel_on (e := (5, 15, m5_)) 4 rfl rfl (hon 5 (by kernel_rfl)) rfl
     rw [Q_X5_ (hon 5 (by kernel_rfl))] at e15
     replace ha := Aside0.mk ha
     have BK155 := Aside0.mk Q_BK155
     have HB := Aside0.mk Q_HB
     have HO158 := Aside0.mk (Q_HO158 (hon 0 (by kernel_rfl)))
     have HO161 := Aside0.mk (Q_HO161 (hon 2 (by kernel_rfl)))
     refine value_ (w1 := w') (v := .slice A16 (rd_L2 t159 a1).length c16) (by rfl) rfl ?_ ?_
     ·go_simp
      (try simp only [i64_w])
      try rfl
     refine hK.out _ _ ⟨v157, v160, m6_, m4_, m5_, (.slice A16 (rd_L2 t159 a1).length c16), adz, A16, c16, (by rw [ha.out];exact putSel_upk 6 hb_ rfl rfl rfl), Q_BK155, Q_HB, Q_HO158, Q_HO161, Q_X6_, Q_SL, Q_CE, Q_AP, Q_X4_, Q_X5_, fun _ => rfl⟩
    exact steps_nil
   rintro b a w12 hall ⟨v157, v160, m6_, m4_, m5_, m7_, adz, A16, c16, ha, Q_BK155, Q_HB, Q_HO158, Q_HO161, Q_X6_, Q_SL, Q_CE, Q_AP, Q_X4_, Q_X5_, Q_X7_⟩
   clear BK155 HB
   have hb0_ := hall 0 (by kernel_rfl)
   have hb1_ := hall 1 (by kernel_rfl)
   have hb2_ := hall 2 (by kernel_rfl)
   have hb4_ := hall 4 (by kernel_rfl)
   have hb5_ := hall 5 (by kernel_rfl)
   have hb6_ := hall 6 (by kernel_rfl)
   have hb7_ := hall 7 (by kernel_rfl)
   subst ha
   obtain rfl := Q_X6_ hb6_
   obtain rfl := Q_X4_ hb4_
   obtain rfl := Q_X5_ hb5_
   obtain rfl := Q_X7_ hb7_
   simp only [putSel, hb0_, hb1_, hb2_, hb4_, hb5_, hb6_, hb7_, if_true, Act.put, List.setIfInBounds_toArray, List.set_cons_zero, List.set_cons_succ]
   have BK155 := Aside0.mk Q_BK155
   clear Q_BK155
   have HB := Aside0.mk Q_HB
   clear Q_HB
   obtain ⟨cS_, eS_⟩ := Q_SL hb2_
   have HS_ := Q_AP hb0_ hb2_
   rw [eS_] at HS_
   obtain ⟨cR_, hcR_, hMR_, hccR_⟩ := Kd.S_get HS_ [] a1 (of_decide_eq_true c5b0) (of_decide_eq_true c6b0)
   obtain ⟨vR_, rfl, hR_⟩ := hMR_
   have hvR_ := hccR_ 0 _ rfl
   rw [Nat.add_zero, show ((Kd.slice 3 (Kd.int .i64))).sz = 1 from rfl, Nat.mul_one] at hvR_
   replace hvR_ := Option.some.inj (hvR_.symm.trans (Q_CE hb2_))
   rw [show t159.getD a1.toNat [] = rd_L2 t159 a1 from rfl] at hR_
   subst hvR_
   have hO_ := Q_HO158 hb0_
   have hne_ : ∀ k_, (Value.slice A16 (rd_L2 t159 a1).length c16).ownBlock = some k_ → some k_ ≠ (m6_ : Value).ownBlock := fun k_ hk_ => (hR_.1 k_ hk_).1
   have HO158 := Aside0.mk (show Kd.R (Kd.int .i64) 3 w12 w.heap.size (fun k_ => some k_ ≠ (Value.slice A16 (rd_L2 t159 a1).length c16).ownBlock) m6_ y156 from ⟨fun k_ hk_ h_ => hne_ k_ h_.symm hk_.symm, hO_.2⟩)
   have HO161 := Aside0.mk (Kd.R_mono (ok' := fun k_ => some k_ ≠ (m6_ : Value).ownBlock) hR_ (fun _ h => h.1))
   clear Q_HO158 Q_HO161 Q_SL Q_CE Q_AP HS_ hccR_ hR_ hO_ hne_ hcR_ eS_
   generalize (Value.slice A16 (rd_L2 t159 a1).length c16) = v160 at HO158 HO161 ⊢
   generalize rd_L2 t159 a1 = y159 at H' HO161
   clear hall hb0_ hb1_ hb2_ hb4_ hb5_ hb6_ hb7_
   try go_wp2
   go_loopg [7, 9] k (fun kq v7 v9 w' => ∃ (x7_1 : List Int) (x9_1 : Int), v9 = .int .i64 x9_1 ∧ Aside0 (spec_l2Within.l0 kq a2 x7_1 y159 x9_1 a0_0 l0_1 = some r) ∧ Aside0 (kq ≤ k) ∧ Aside0 (Kd.R (Kd.int .i64) 3 w' w.heap.size (fun k_ => some k_ ≠ (v160 : Value).ownBlock) v7 x7_1) ∧ Aside0 (Kd.R (Kd.int .i64) 3 w' w.heap.size (fun k_ => some k_ ≠ (v7 : Value).ownBlock) v160 y159) ∧ Aside0 (w'.heap[gb155]? = some (.cells #[.int .i64 a0_0, (.slice A0_1 l0_1.length c0_1)] 29 (0, 0))) ∧ Aside0 (Below w.heap.size w w'))
   case atStart => exact ⟨(y156), (0), (by first | rfl | (simp;done) | (simp [*];done)), H', ⟨Nat.le_refl _⟩, ⟨by exact rP HO158.out⟩, ⟨by exact rP HO161.out⟩, ⟨by exact kP BK155.out⟩, ⟨by exact bB⟩⟩
   case round =>
    clear H'
    try clear c1
    try clear p2
    try clear c10
    obtain ⟨x7_1, x9_1, rfl, HA, HK1, HO_7, HO_8, BK155, HB⟩ := hrel
    cases gk with
    | zero => exact absurd HA.out (by simp [spec_l2Within.l0])
    | succ k1 =>
     have H := HA.out
     clear HA
     simp only [spec_l2Within.l0] at H
     by_cases c11 : x9_1 < a0_0
     ·rw [if_pos c11] at H
      have c11b0 : decide (x9_1 < a0_0) = true := decide_eq_true c11
      clear c11
      by_cases c12 : 0 ≤ x9_1
      ·rw [if_pos c12] at H
       have c12b0 : decide (0 ≤ x9_1) = true := decide_eq_true c12
       clear c12
       by_cases c13 : x9_1 < (y159.length : Int)
       ·rw [if_pos c13] at H
        have c13b0 : decide (x9_1 < (y159.length : Int)) = true := decide_eq_true c13
        clear c13
        replace H := Option.bind_eq_some_iff.mp H
        obtain ⟨t163, A140, H⟩ := H
        replace H : (if t163 = true then (if x7_1.length < 17592186044416 then (spec_l2Within.l0 k1 a2 (x7_1 ++ [x9_1]) y159 (wrap64 (x9_1 + 1)) a0_0 l0_1) else (none)) else (spec_l2Within.l0 k1 a2 x7_1 y159 (wrap64 (x9_1 + 1)) a0_0 l0_1)) = some r := H
        have A14 := Aside0.mk A140
        clear A140
        by_cases c15 : t163 = true
        ·subst c15
         have H1 : (if x7_1.length < 17592186044416 then (spec_l2Within.l0 k1 a2 (x7_1 ++ [x9_1]) y159 (wrap64 (x9_1 + 1)) a0_0 l0_1) else (none)) = some r := by rw [if_pos rfl] at H;exact H
         clear H
         have H := H1
         clear H1
         by_cases c16 : x7_1.length < 17592186044416
         ·rw [if_pos c16] at H
          have LMc16 := Aside0.mk c16
          clear c16
          obtain ⟨y164, hy164⟩ : ∃ y_ : List Int, y_ = (x7_1 ++ [x9_1]) := ⟨_, rfl⟩
          replace H : (spec_l2Within.l0 k1 a2 y164 y159 (wrap64 (x9_1 + 1)) a0_0 l0_1) = some r := by first | (rw [hy164];with_reducible exact H) | (have H2_ := (Option.bind_some _ _).symm.trans H;rw [hy164];with_reducible exact H2_) | (have H2_ := (Option.bind_some _ _).symm.trans H;with_reducible exact H2_) | with_reducible exact H | (rw [hy164];exact H) | exact H
          have Ny164 := Aside0.mk hy164
          clear hy164
          have H' := Aside0.mk H
          clear H
          have hcz17_0 : wr.cell? ⟨gb155, 0, none⟩ = some (.int .i64 a0_0) := (blk_cell BK155.out 0).trans rfl
          have hcz17_1 : wr.cell? ⟨gb155, 1, none⟩ = some (.slice A0_1 l0_1.length c0_1) := (blk_cell BK155.out 1).trans rfl
          have hfz17_0 := blk_frozen BK155.out 0
          have hfz17_1 := blk_frozen BK155.out 1
          obtain ⟨Ao18, co18, eo18⟩ := Kd.R_slice HO_8.out
          subst eo18
          have p162 : 0 ≤ (x9_1 : Int) := oA
          have q162 : x9_1 < (y159.length : Int) := oA
          obtain ⟨ad162, e162, hx162_0⟩ := Kd.at_int (Kd.R_reads' HO_8.out).2.2 x9_1 p162 q162
          cases e162
          replace p162 := eq_true p162
          replace q162 := eq_true q162
          go_wp2_with (first | ((with_reducible refine gate_callee (f := 34) rfl ?_);refine goesL_ (some 27) rfl rfl Try.func34 (by kernel_rfl) rfl #[.int .i64 (rd y159 x9_1), .int .i64 0, .int .i64 a2] rfl mM ?_;(with_reducible refine (spec_l1In.calls (rd y159 x9_1) 0 a2 true _ A14.out).mono ?_);rintro e w' ⟨rfl, ⟨nd, rfl⟩⟩;refine ⟨_, rfl, ?_⟩) | ((with_reducible refine gate_builtin (b := .append) (xs := #[.tmp 28, .tmp 30]) rfl ?_);at_builtin;refine Kd.R_append (Kd.int .i64) (w0 := w) w.heap.size rfl (.tmp 28) (.tmp 30) 25 3 (.int .i64 0) 8 rfl Try.underlying25 info3 rfl (by decide) (by omega) u7 x7_1 x9_1 [.int .i64 x9_1] (fun k_ => some k_ ≠ (.slice (some ad162) y159.length co18 : Value).ownBlock) (fun _ => False) rfl rfl ?aP (fun _ hk => hk.elim) ?aF ?aO ?aB ?aS ?aL ?_;(case aP => exact rfl);(case aB => exact (by exact bB));(case aF => exact (fun k_ hk => Kd.fresh' (Kd.R_lt (by exact rP HO_8.out)) k_ hk));(case aO => exact (by exact rP HO_7.out));(case aS => exact (below_size (by exact bB)));(case aL => have := LMc16.out;omega);intro v165 w19 ho hb hg hat;rw [← Ny164.out] at ho;have n0_ := Aside0.mk (Kd.R_after (ok := (fun _ => True)) (by exact rP (Kd.R_mono HO_8.out (fun _ hk => ⟨trivial, hk⟩))) hg hat);have n1_ := Aside0.mk (blk_grown (g := gb155) (o := .cells #[.int .i64 a0_0, .slice A0_1 l0_1.length c0_1] 29 (0, 0)) (by exact kP BK155.out) hg (Kd.R_ne HO_7.out BK155.out (by decide)));have n2_ := Aside0.mk (hb);have n3_ := Aside0.mk (ho);clear HO_8;clear BK155;clear HB;clear HO_7;have HO_8 := n0_;have BK155 := n1_;have HB := n2_;have HO166 := n3_;clear n0_ n1_ n2_ n3_;clear ho hb hg hat))
          go_roundg k1
          case measure => have := HK1.out;omega
          case rel => exact ⟨(y164), (wrap64 (x9_1 + 1)), (by first | rfl | (simp;done) | (simp [*];done)), H', ⟨by have := HK1.out;omega⟩, ⟨by exact rP HO166.out⟩, ⟨by refine rP ?_;exact Kd.R_mono HO_8.out (fun _ hk => hk.2)⟩, ⟨by exact kP BK155.out⟩, ⟨by exact bB⟩⟩
         ·rw [if_neg c16] at H
          exact absurd H (by simp)
        ·replace c15 := Bool.eq_false_iff.mpr c15
         subst c15
         have H1 : (spec_l2Within.l0 k1 a2 x7_1 y159 (wrap64 (x9_1 + 1)) a0_0 l0_1) = some r := by rw [if_neg (show ¬ (false = true) by decide)] at H;exact H
         clear H
         have H := H1
         clear H1
         have H' := Aside0.mk H
         clear H
         have hcz20_0 : wr.cell? ⟨gb155, 0, none⟩ = some (.int .i64 a0_0) := (blk_cell BK155.out 0).trans rfl
         have hcz20_1 : wr.cell? ⟨gb155, 1, none⟩ = some (.slice A0_1 l0_1.length c0_1) := (blk_cell BK155.out 1).trans rfl
         have hfz20_0 := blk_frozen BK155.out 0
         have hfz20_1 := blk_frozen BK155.out 1
         obtain ⟨Ao21, co21, eo21⟩ := Kd.R_slice HO_8.out
         subst eo21
         have p162 : 0 ≤ (x9_1 : Int) := oA
         have q162 : x9_1 < (y159.length : Int) := oA
         obtain ⟨ad162, e162, hx162_0⟩ := Kd.at_int (Kd.R_reads' HO_8.out).2.2 x9_1 p162 q162
         cases e162
         replace p162 := eq_true p162
         replace q162 := eq_true q162
         go_wp2_with (first | ((with_reducible refine gate_callee (f := 34) rfl ?_);refine goesL_ (some 27) rfl rfl Try.func34 (by kernel_rfl) rfl #[.int .i64 (rd y159 x9_1), .int .i64 0, .int .i64 a2] rfl mM ?_;(with_reducible refine (spec_l1In.calls (rd y159 x9_1) 0 a2 false _ A14.out).mono ?_);rintro e w' ⟨rfl, ⟨nd, rfl⟩⟩;refine ⟨_, rfl, ?_⟩))
         go_roundg k1
         case measure => have := HK1.out;omega
         case rel => exact ⟨(x7_1), (wrap64 (x9_1 + 1)), (by first | rfl | (simp;done) | (simp [*];done)), H', ⟨by have := HK1.out;omega⟩, ⟨by exact rP HO_7.out⟩, ⟨by exact rP HO_8.out⟩, ⟨by exact kP BK155.out⟩, ⟨by exact bB⟩⟩
       ·rw [if_neg c13] at H
        exact absurd H (by simp)
      ·rw [if_neg c12] at H
       exact absurd H (by simp)
     ·rw [if_neg c11] at H
      have c11b0 : decide (x9_1 < a0_0) = false := decide_eq_false c11
      clear c11
      obtain rfl := Option.some.inj H
      have hcz22_0 : wr.cell? ⟨gb155, 0, none⟩ = some (.int .i64 a0_0) := (blk_cell BK155.out 0).trans rfl
      have hcz22_1 : wr.cell? ⟨gb155, 1, none⟩ = some (.slice A0_1 l0_1.length c0_1) := (blk_cell BK155.out 1).trans rfl
      have hfz22_0 := blk_frozen BK155.out 0
      have hfz22_1 := blk_frozen BK155.out 1
      go_wp2
      go_ret
      exact ⟨_, by first | rfl | (simp [errW_none, errW_some] <;> rfl) | (simp [*, errW_none, errW_some] <;> rfl), by refine rP ?_;exact Kd.R_mono HO_7.out (fun _ hk => trivial), by exact bB⟩
  ·rw [if_neg c6] at H
   exact absurd H (by simp)
 ·rw [if_neg c5] at H
  exact absurd H (by simp)

/-! ### spec_l1Most: function 103 -/
def spec_l1Most.f (a0 : Int) (a1 : Int) : Option (Int) := if a0 > a1 then (some a0) else (some a1)
set_option maxHeartbeats 8000000 in
set_option maxRecDepth 100000 in
theorem spec_l1Most.calls (a0 : Int) (a1 : Int) (r : Int) (w : World) (h : spec_l1Most.f a0 a1 = some r) :
  Calls Try.prog 103 #[.int .i64 a0, .int .i64 a1] w fun e w' => e = .returned (.int .i64 r) ∧ Drawn0 w w' := by
 have H : (if a0 > a1 then (some a0) else (some a1)) = some r := h
 clear h
 by_cases c3 : a0 > a1
 ·rw [if_pos c3] at H
  have c3b0 : decide (a1 < a0) = true := decide_eq_true c3
  clear c3
  obtain rfl := Option.some.inj H
  go_enter Try.func103, Try.ntmps103
  go_wp2
  go_ret
  exact ⟨by first | rfl | (simp;done) | (simp [*];done), by repeat (first | exact Drawn0.refl _ | apply Drawn0.step)⟩
 ·rw [if_neg c3] at H
  have c3b0 : decide (a1 < a0) = false := decide_eq_false c3
  clear c3
  obtain rfl := Option.some.inj H
  go_enter Try.func103, Try.ntmps103
  go_wp2
  go_ret
  exact ⟨by first | rfl | (simp;done) | (simp [*];done), by repeat (first | exact Drawn0.refl _ | apply Drawn0.step)⟩


/-! ### spec_l8Room: function 73 -/
mutual
def spec_l8Room.l0 : Nat → List (List (List Int)) → List Int → Int → Option (List Int)
 | 0, _, _, _ => none
 | k + 1, x0, x3, x4 => if x4 < (x0.length : Int) then (spec_l8Room.l1 k x0 x3 x4 0 0) else (some x3)
def spec_l8Room.l1 : Nat → List (List (List Int)) → List Int → Int → Int → Int → Option (List Int)
 | 0, _, _, _, _, _ => none
 | k + 1, x0, x3, x4, x5, x6 => if x6 < (x0.length : Int) then (if 0 ≤ x6 then (if 0 ≤ x4 then (if x4 < ((rd_L3 x0 x6).length : Int) then ((spec_l1Most.f x5 ((rd_L2 (rd_L3 x0 x6) x4).length : Int)).bind fun t168 => (spec_l8Room.l1 k x0 x3 x4 t168 (wrap64 (x6 + 1)))) else (none)) else (none)) else (none)) else (if 0 ≤ x4 then (if x4 < (x3.length : Int) then (if x3.length < 17592186044416 then (spec_l8Room.l0 k x0 (x3 ++ [wrap64 ((rd x3 x4) + x5)]) (wrap64 (x4 + 1))) else (none)) else (none)) else (none))
end
def spec_l8Room.f (k : Nat) (l0 : List (List (List Int))) : Option (List Int) := spec_l8Room.l0 k l0 (([0] : List Int)) 0
theorem spec_l8Room.mono_l : ∀ k, (∀ y0 y1 y2, LeO (spec_l8Room.l0 k y0 y1 y2) (spec_l8Room.l0 (k + 1) y0 y1 y2)) ∧ (∀ y0 y1 y2 y3 y4, LeO (spec_l8Room.l1 k y0 y1 y2 y3 y4) (spec_l8Room.l1 (k + 1) y0 y1 y2 y3 y4))
 | 0 => ⟨fun _ _ _ r h => by simp [spec_l8Room.l0] at h, fun _ _ _ _ _ r h => by simp [spec_l8Room.l1] at h⟩
 | k + 1 => by
  obtain ⟨ih0, ih1⟩ := spec_l8Room.mono_l k
  refine ⟨?_, ?_⟩
  ·intro y0 y1 y2
   unfold spec_l8Room.l0
   repeat' first
   | (with_reducible exact ih0 _ _ _)
   | (with_reducible exact ih1 _ _ _ _ _)
   | (with_reducible exact LeO.refl _)
   | (with_reducible exact LeO.none _)
   | (with_reducible refine LeO.ite ?_ ?_)
   | (with_reducible refine LeO.bind ?_ (fun _ => ?_))
   | exact ih0 _ _ _
   | exact ih1 _ _ _ _ _
   | exact LeO.none _
   | refine LeO.ite ?_ ?_
   | refine LeO.bind ?_ (fun _ => ?_)
  ·intro y0 y1 y2 y3 y4
   unfold spec_l8Room.l1
   repeat' first
   | (with_reducible exact ih0 _ _ _)
   | (with_reducible exact ih1 _ _ _ _ _)
   | (with_reducible exact LeO.refl _)
   | (with_reducible exact LeO.none _)
   | (with_reducible refine LeO.ite ?_ ?_)
   | (with_reducible refine LeO.bind ?_ (fun _ => ?_))
   | exact ih0 _ _ _
   | exact ih1 _ _ _ _ _
   | exact LeO.none _
   | refine LeO.ite ?_ ?_
   | refine LeO.bind ?_ (fun _ => ?_)
theorem spec_l8Room.mono : ∀ a0 k, LeO (spec_l8Room.f k a0) (spec_l8Room.f (k + 1) a0) := by
 intro a0 k
 obtain ⟨ih0, ih1⟩ := spec_l8Room.mono_l k
 unfold spec_l8Room.f
 repeat' first
   | (with_reducible exact ih0 _ _ _)
   | (with_reducible exact ih1 _ _ _ _ _)
   | (with_reducible exact LeO.refl _)
   | (with_reducible exact LeO.none _)
   | (with_reducible refine LeO.ite ?_ ?_)
   | (with_reducible refine LeO.bind ?_ (fun _ => ?_))
   | exact ih0 _ _ _
   | exact ih1 _ _ _ _ _
   | exact LeO.none _
   | refine LeO.ite ?_ ?_
   | refine LeO.bind ?_ (fun _ => ?_)
set_option maxHeartbeats 8000000 in
set_option maxRecDepth 100000 in
theorem spec_l8Room.calls (k : Nat) (A0 : Option Addr) (c0 : Nat) (l0 : List (List (List Int))) (r : List Int) (w : World) (hr0 : Kd.C (Kd.slice 25 (Kd.slice 3 (Kd.int .i64))) w A0 l0.length l0) (hc0 : l0.length ≤ c0) (h : spec_l8Room.f k l0 = some r) :
  Calls Try.prog 73 #[.slice A0 l0.length c0] w fun e w' => ∃ v0_ : Value, e = .returned (v0_) ∧ Kd.R (Kd.int .i64) 3 w' w.heap.size (fun _ => True) v0_ r ∧ Below w.heap.size w w' := by
 have HR0 := Aside0.mk hr0
 have HC0 := Aside0.mk hc0
 clear hr0 hc0
 have HB := Aside0.mk (Below.refl w.heap.size w)
 have H : (spec_l8Room.l0 k l0 (([0] : List Int)) 0) = some r := h
 clear h
 obtain ⟨y163, hy163⟩ : ∃ y_ : List Int, y_ = (([0] : List Int)) := ⟨_, rfl⟩
 replace H : (spec_l8Room.l0 k l0 y163 0) = some r := by first | (rw [hy163];with_reducible exact H) | (have H2_ := (Option.bind_some _ _).symm.trans H;rw [hy163];with_reducible exact H2_) | (have H2_ := (Option.bind_some _ _).symm.trans H;with_reducible exact H2_) | with_reducible exact H | (rw [hy163];exact H) | exact H
 have Ny163 := Aside0.mk hy163
 clear hy163
 have H' := Aside0.mk H
 clear H
 go_enter Try.func73, Try.ntmps73
 go_wp2_with (first | ((with_reducible refine gate_dst (N := 7) rfl ?_);refine Kd.R_lit (Kd.int .i64) _ 3 ?hg (N := 7) ?hd (xs := ([0] : List Int)) (inner := [.int .i64 0]) (ok := fun _ => True) (okp := fun _ => True) ?hr ?hp (fun _ hk => hk) trivial (Below.refl _ _) (Nat.le_refl _) (by simp) ?_;(case hd => rfl);(case hg => rfl);(case hr => first | (go_simp;done) | (go_simp;rfl));(case hp => exact (Reps.one (show Kd.M (Kd.int .i64) _ _ _ 0 [.int .i64 0] from rfl) (Reps.none _ _)));intro v164 w2 ho3 hb hg_ hnew_;clear hg_ hnew_;(first | rw [← Ny163.out] at ho3 | (simp only [Int.reduceToNat] at ho3;rw [← Ny163.out] at ho3));have n0_ := Aside0.mk (Kd.R_lower ho3 (below_size (by exact bB)));have n1_ := Aside0.mk (below_step (by exact bB) hb);clear HB;have HO165 := n0_;have HB := n1_;clear n0_ n1_;clear hb ho3))
 go_loopg [3, 4] k (fun kq v3 v4 w' => ∃ (x3_1 : List Int) (x4_1 : Int), v4 = .int .i64 x4_1 ∧ Aside0 (spec_l8Room.l0 kq l0 x3_1 x4_1 = some r) ∧ Aside0 (kq ≤ k) ∧ Aside0 (Kd.R (Kd.int .i64) 3 w' w.heap.size (fun _ => True) v3 x3_1) ∧ Aside0 (Below w.heap.size w w'))
 case atStart => exact ⟨(y163), (0), (by first | rfl | (simp;done) | (simp [*];done)), H', ⟨Nat.le_refl _⟩, ⟨by exact rP HO165.out⟩, ⟨by exact bB⟩⟩
 case round =>
  clear H'
  try clear p2
  obtain ⟨x3_1, x4_1, rfl, HA, HK1, HO_3, HB⟩ := hrel
  cases gk with
  | zero => exact absurd HA.out (by simp [spec_l8Room.l0])
  | succ k1 =>
   have H := HA.out
   clear HA
   simp only [spec_l8Room.l0] at H
   by_cases c4 : x4_1 < (l0.length : Int)
   ·rw [if_pos c4] at H
    have c4b0 : decide (x4_1 < (l0.length : Int)) = true := decide_eq_true c4
    clear c4
    have H' := Aside0.mk H
    clear H
    go_wp2
    go_loopg [5, 6] k1 (fun kq v5 v6 w' => ∃ (x5_2 : Int) (x6_2 : Int), v5 = .int .i64 x5_2 ∧ v6 = .int .i64 x6_2 ∧ Aside0 (spec_l8Room.l1 kq l0 x3_1 x4_1 x5_2 x6_2 = some r) ∧ Aside0 (kq ≤ k1) ∧ Aside0 (Kd.R (Kd.int .i64) 3 w' w.heap.size (fun _ => True) u3 x3_1) ∧ Aside0 (Below w.heap.size w w'))
    case atStart => exact ⟨(0), (0), (by first | rfl | (simp;done) | (simp [*];done)), (by first | rfl | (simp;done) | (simp [*];done)), H', ⟨Nat.le_refl _⟩, ⟨by exact rP HO_3.out⟩, ⟨by exact bB⟩⟩
    case round =>
     clear H'
     try clear p2
     try clear c4
     try clear c4b0
     try clear p2
     obtain ⟨x5_2, x6_2, rfl, rfl, HA, HK2, HO_3, HB⟩ := hrel
     cases gk with
     | zero => exact absurd HA.out (by simp [spec_l8Room.l1])
     | succ k2 =>
      have H := HA.out
      clear HA
      simp only [spec_l8Room.l1] at H
      by_cases c5 : x6_2 < (l0.length : Int)
      ·rw [if_pos c5] at H
       have c5b0 : decide (x6_2 < (l0.length : Int)) = true := decide_eq_true c5
       clear c5
       by_cases c6 : 0 ≤ x6_2
       ·rw [if_pos c6] at H
        have c6b0 : decide (0 ≤ x6_2) = true := decide_eq_true c6
        clear c6
        by_cases c7 : 0 ≤ x4_1
        ·rw [if_pos c7] at H
         have c7b0 : decide (0 ≤ x4_1) = true := decide_eq_true c7
         clear c7
         by_cases c8 : x4_1 < ((rd_L3 l0 x6_2).length : Int)
         ·rw [if_pos c8] at H
          have c8b0 : decide (x4_1 < ((rd_L3 l0 x6_2).length : Int)) = true := decide_eq_true c8
          clear c8
          replace H := Option.bind_eq_some_iff.mp H
          obtain ⟨t168, A90, H⟩ := H
          replace H : (spec_l8Room.l1 k2 l0 x3_1 x4_1 t168 (wrap64 (x6_2 + 1))) = some r := H
          have A9 := Aside0.mk A90
          clear A90
          have H' := Aside0.mk H
          clear H
          have p166 : 0 ≤ (x6_2 : Int) := oA
          have q166 : x6_2 < (l0.length : Int) := oA
          obtain ⟨ad166, A166_0, c166_0, e166, hx166_0, hl166_0, hi166_0⟩ := at_L3 HR0.out x6_2 p166 q166
          cases e166
          replace hx166_0 := (HB.out.cell (World.block_lt_of_cell? w _ hx166_0)).trans hx166_0
          have HR166_0 := Aside0.mk hi166_0
          have HC166_0 := Aside0.mk hl166_0
          clear hi166_0 hl166_0
          replace p166 := eq_true p166
          replace q166 := eq_true q166
          have p167 : 0 ≤ (x4_1 : Int) := oA
          have q167 : x4_1 < ((rd_L3 l0 x6_2).length : Int) := oA
          obtain ⟨ad167, A167_0, c167_0, e167, hx167_0, hl167_0, hi167_0⟩ := at_L2 HR166_0.out x4_1 p167 q167
          cases e167
          replace hx167_0 := (HB.out.cell (World.block_lt_of_cell? w _ hx167_0)).trans hx167_0
          have HR167_0 := Aside0.mk hi167_0
          have HC167_0 := Aside0.mk hl167_0
          clear hi167_0 hl167_0
          replace p167 := eq_true p167
          replace q167 := eq_true q167
          go_wp2_with (first | ((with_reducible refine gate_callee (f := 103) rfl ?_);refine goesL_ (some 29) rfl rfl Try.func103 (by kernel_rfl) rfl #[.int .i64 x5_2, .int .i64 ((rd_L2 (rd_L3 l0 x6_2) x4_1).length : Int)] rfl mM ?_;(with_reducible refine (spec_l1Most.calls x5_2 ((rd_L2 (rd_L3 l0 x6_2) x4_1).length : Int) t168 _ A9.out).mono ?_);rintro e w' ⟨rfl, ⟨nd, rfl⟩⟩;refine ⟨_, rfl, ?_⟩))
          go_roundg k2
          case measure => have := HK1.out;have := HK2.out;omega
          case rel => exact ⟨(t168), (wrap64 (x6_2 + 1)), (by first | rfl | (simp;done) | (simp [*];done)), (by first | rfl | (simp;done) | (simp [*];done)), H', ⟨by have := HK1.out;have := HK2.out;omega⟩, ⟨by exact rP HO_3.out⟩, ⟨by exact bB⟩⟩
         ·rw [if_neg c8] at H
          exact absurd H (by simp)
        ·rw [if_neg c7] at H
         exact absurd H (by simp)
       ·rw [if_neg c6] at H
        exact absurd H (by simp)
      ·rw [if_neg c5] at H
       have c5b0 : decide (x6_2 < (l0.length : Int)) = false := decide_eq_false c5
       clear c5
       by_cases c10 : 0 ≤ x4_1
       ·rw [if_pos c10] at H
        have c10b0 : decide (0 ≤ x4_1) = true := decide_eq_true c10
        clear c10
        by_cases c11 : x4_1 < (x3_1.length : Int)
        ·rw [if_pos c11] at H
         have c11b0 : decide (x4_1 < (x3_1.length : Int)) = true := decide_eq_true c11
         clear c11
         by_cases c12 : x3_1.length < 17592186044416
         ·rw [if_pos c12] at H
          have LMc12 := Aside0.mk c12
          clear c12
          obtain ⟨y170, hy170⟩ : ∃ y_ : List Int, y_ = (x3_1 ++ [wrap64 ((rd x3_1 x4_1) + x5_2)]) := ⟨_, rfl⟩
          replace H : (spec_l8Room.l0 k2 l0 y170 (wrap64 (x4_1 + 1))) = some r := by first | (rw [hy170];with_reducible exact H) | (have H2_ := (Option.bind_some _ _).symm.trans H;rw [hy170];with_reducible exact H2_) | (have H2_ := (Option.bind_some _ _).symm.trans H;with_reducible exact H2_) | with_reducible exact H | (rw [hy170];exact H) | exact H
          have Ny170 := Aside0.mk hy170
          clear hy170
          have H' := Aside0.mk H
          clear H
          obtain ⟨Ao13, co13, eo13⟩ := Kd.R_slice HO_3.out
          subst eo13
          have p169 : 0 ≤ (x4_1 : Int) := oA
          have q169 : x4_1 < (x3_1.length : Int) := oA
          obtain ⟨ad169, e169, hx169_0⟩ := Kd.at_int (Kd.R_reads' HO_3.out).2.2 x4_1 p169 q169
          cases e169
          replace p169 := eq_true p169
          replace q169 := eq_true q169
          go_wp2_with (first | ((with_reducible refine gate_builtin (b := .append) (xs := #[.tmp 30, .tmp 37]) rfl ?_);at_builtin;refine Kd.R_append (Kd.int .i64) (w0 := w) w.heap.size rfl (.tmp 30) (.tmp 37) 25 3 (.int .i64 0) 8 rfl Try.underlying25 info3 rfl (by decide) (by omega) (.slice (some ad169) x3_1.length co13) x3_1 (wrap64 ((rd x3_1 x4_1) + x5_2)) [.int .i64 (wrap64 ((rd x3_1 x4_1) + x5_2))] (fun _ => True) (fun _ => False) rfl rfl ?aP (fun _ hk => hk.elim) ?aF ?aO ?aB ?aS ?aL ?_;(case aP => exact rfl);(case aB => exact (by exact bB));(case aF => exact (fun _ _ => trivial));(case aO => exact (by exact rP HO_3.out));(case aS => exact (below_size (by exact bB)));(case aL => have := LMc12.out;omega);intro v171 w14 ho hb hg hat;rw [← Ny170.out] at ho;have n0_ := Aside0.mk (hb);have n1_ := Aside0.mk (ho);clear HB;clear HO_3;have HB := n0_;have HO172 := n1_;clear n0_ n1_;clear ho hb hg hat))
          go_roundg k2
          case measure => have := HK1.out;have := HK2.out;omega
          case rel => exact ⟨(y170), (wrap64 (x4_1 + 1)), (by first | rfl | (simp;done) | (simp [*];done)), H', ⟨by have := HK1.out;have := HK2.out;omega⟩, ⟨by exact rP HO172.out⟩, ⟨by exact bB⟩⟩
         ·rw [if_neg c12] at H
          exact absurd H (by simp)
        ·rw [if_neg c11] at H
         exact absurd H (by simp)
       ·rw [if_neg c10] at H
        exact absurd H (by simp)
   ·rw [if_neg c4] at H
    have c4b0 : decide (x4_1 < (l0.length : Int)) = false := decide_eq_false c4
    clear c4
    obtain rfl := Option.some.inj H
    go_wp2
    go_ret
    exact ⟨_, by first | rfl | (simp [errW_none, errW_some] <;> rfl) | (simp [*, errW_none, errW_some] <;> rfl), by exact rP HO_3.out, by exact bB⟩


/-! ### spec_l1Own: function 104 -/
def spec_l1Own.f (l0 : List Int) : Option (List Int) := (some (([] : List Int) : List Int)).bind fun y173 => (if y173.length + l0.length < 17592186044416 then (some (y173 ++ l0)) else (none))
set_option maxHeartbeats 8000000 in
set_option maxRecDepth 100000 in
theorem spec_l1Own.calls (A0 : Option Addr) (c0 : Nat) (l0 : List Int) (r : List Int) (w : World) (hr0 : Kd.C (Kd.int .i64) w A0 l0.length l0) (hc0 : l0.length ≤ c0) (h : spec_l1Own.f l0 = some r) :
  Calls Try.prog 104 #[.slice A0 l0.length c0] w fun e w' => ∃ v0_ : Value, e = .returned (v0_) ∧ Kd.R (Kd.int .i64) 3 w' w.heap.size (fun _ => True) v0_ r ∧ Below w.heap.size w w' := by
 have HR0 := Aside0.mk hr0
 have HC0 := Aside0.mk hc0
 clear hr0 hc0
 have HB := Aside0.mk (Below.refl w.heap.size w)
 have H : ((some (([] : List Int) : List Int)).bind fun y173 => (if y173.length + l0.length < 17592186044416 then (some (y173 ++ l0)) else (none))) = some r := h
 clear h
 obtain ⟨y173, hy173⟩ : ∃ y_ : List Int, y_ = (([] : List Int)) := ⟨_, rfl⟩
 replace H : (if y173.length + l0.length < 17592186044416 then (some (y173 ++ l0)) else (none)) = some r := by first | (rw [hy173];with_reducible exact H) | (have H2_ := (Option.bind_some _ _).symm.trans H;rw [hy173];with_reducible exact H2_) | (have H2_ := (Option.bind_some _ _).symm.trans H;with_reducible exact H2_) | with_reducible exact H | (rw [hy173];exact H) | exact H
 have Ny173 := Aside0.mk hy173
 clear hy173
 by_cases c2 : y173.length + l0.length < 17592186044416
 ·rw [if_pos c2] at H
  have LMc2 := Aside0.mk c2
  clear c2
  obtain ⟨y176, hy176⟩ : ∃ y_ : List Int, y_ = (y173 ++ l0) := ⟨_, rfl⟩
  replace H : (some y176) = some r := by first | (rw [hy176];with_reducible exact H) | (have H2_ := (Option.bind_some _ _).symm.trans H;rw [hy176];with_reducible exact H2_) | (have H2_ := (Option.bind_some _ _).symm.trans H;with_reducible exact H2_) | with_reducible exact H | (rw [hy176];exact H) | exact H
  have Ny176 := Aside0.mk hy176
  clear hy176
  obtain rfl := Option.some.inj H
  go_enter Try.func104, Try.ntmps104
  go_wp2_with (first | ((with_reducible refine gate_dst (N := 3) rfl ?_);refine Kd.R_lit (Kd.int .i64) _ 3 ?hg (N := 3) ?hd (xs := ([] : List Int)) (inner := []) (ok := fun _ => True) (okp := fun _ => True) ?hr ?hp (fun _ hk => hk) trivial (Below.refl _ _) (Nat.le_refl _) (by simp) ?_;(case hd => rfl);(case hg => rfl);(case hr => first | (go_simp;done) | (go_simp;rfl));(case hp => exact (Reps.none _ _));intro v174 w3 ho4 hb hg_ hnew_;clear hg_ hnew_;(first | rw [← Ny173.out] at ho4 | (simp only [Int.reduceToNat] at ho4;rw [← Ny173.out] at ho4));have n0_ := Aside0.mk (Kd.R_lower ho4 (below_size (by exact bB)));have n1_ := Aside0.mk (below_step (by exact bB) hb);clear HB;have HO175 := n0_;have HB := n1_;clear n0_ n1_;clear hb ho4) | ((with_reducible refine gate_builtin (b := .append) (xs := #[.tmp 3, .tmp 4]) rfl ?_);at_builtin;refine Kd.R_append_rows (Kd.int .i64) (w0 := w) w.heap.size rfl (.tmp 3) (.tmp 4) 25 3 (.int .i64 0) 8 rfl Try.underlying25 info3 rfl (by decide) (by omega) v174 y173 l0 _ _ _ (fun _ => True) (fun _ => False) rfl rfl ?aO ?aR (fun _ _ h => h) (fun _ h => h.elim) ?aF ?aB ?aS ?aL ?_;(case aR => exact cP (Kd.C_below HR0.out HB.out));(case aB => exact (by exact bB));(case aF => exact (fun _ _ => trivial));(case aO => exact (by exact rP HO175.out));(case aS => exact (below_size (by exact bB)));(case aL => have := LMc2.out;omega);intro v177 w5 ho hb hg hat;rw [← Ny176.out] at ho;have n0_ := Aside0.mk (hb);have n1_ := Aside0.mk (ho);clear HB;clear HO175;have HB := n0_;have HO178 := n1_;clear n0_ n1_;clear ho hb hg hat))
  go_ret
  exact ⟨_, by first | rfl | (simp [errW_none, errW_some] <;> rfl) | (simp [*, errW_none, errW_some] <;> rfl), by exact rP HO178.out, by exact bB⟩
 ·rw [if_neg c2] at H
  exact absurd H (by simp)


end Go.Proofs.Ytaddgielnfhhpaa.QBurningNumber
