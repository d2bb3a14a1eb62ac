import Derived.Test.YthbjajppdomhhaaDoorQEternalNumber0
import Derived.Test.YthbjajppdomhhaaDoorQEternalNumber4
import Derived.Test.YthbjajppdomhhaaDoorQEternalNumber10
namespace Go.Proofs.YthbjajppdomhhaaDoor.QEternalNumber
open Go.RowKit Go.Proofs.YthbjajppdomhhaaDoorW.PrintWords Go.Proofs.YthbjajppdomhhaaDoorW.PrintLast Go.Proofs.YthbjajppdomhhaaDoorW.PrintMore
attribute [local go_sem] max2_int min2_int max_two min_two max_three min_three max_four min_four   -- for this text's walks alone
set_option linter.unusedVariables false
set_option linter.unusedSimpArgs false
/-! ### spec_l10Family: function 106 -/
def spec_l10Family.l0 : Nat → List (List Int) → List (List Int) → List Int → Int → Option ((List (List Int)))
 | 0, _, _, _, _ => none
 | k + 1, x7, x8, x9, x10 => if x10 < (x8.length : Int) then (if 0 ≤ x10 then (if x10 < (x9.length : Int) then (if (rd x9 x10) < 0 then (if x7.length < 5864062014805 then (spec_l10Family.l0 k (x7 ++ [rd_L2 x8 x10]) x8 x9 (wrap64 (x10 + 1))) else (none)) else (spec_l10Family.l0 k x7 x8 x9 (wrap64 (x10 + 1)))) else (none)) else (none)) else (some x7)
def spec_l10Family.f (k : Nat) (a0_0 : Int) (l0_1 : List (S92)) (a1 : Int) (a2 : Bool) : Option ((List (List Int))) := (spec_l10Sets.f k a0_0 l0_1 a1).bind fun t304 => ((spec_l10Known.f k a0_0 l0_1 a1 a2).bind fun t307 => (spec_l10Family.l0 k (([] : List (List Int))) t304 t307 0))
theorem spec_l10Family.mono_l : ∀ k, (∀ y0 y1 y2 y3, LeO (spec_l10Family.l0 k y0 y1 y2 y3) (spec_l10Family.l0 (k + 1) y0 y1 y2 y3))
 | 0 => fun _ _ _ _ r h => by simp [spec_l10Family.l0] at h
 | k + 1 => by
  have ih0 := spec_l10Family.mono_l k
  ·intro y0 y1 y2 y3
   unfold spec_l10Family.l0
   repeat' first
   | (with_reducible exact ih0 _ _ _ _)
   | (with_reducible exact spec_l10Known.mono _ _ _ _ _)
   | (with_reducible exact spec_l10Sets.mono _ _ _ _)
   | (with_reducible exact LeO.refl _)
   | (with_reducible exact LeO.none _)
   | (with_reducible refine LeO.ite ?_ ?_)
   | (with_reducible refine LeO.bind ?_ (fun _ => ?_))
   | exact ih0 _ _ _ _
   | exact spec_l10Known.mono _ _ _ _ _
   | exact spec_l10Sets.mono _ _ _ _
   | exact LeO.none _
   | refine LeO.ite ?_ ?_
   | refine LeO.bind ?_ (fun _ => ?_)
theorem spec_l10Family.mono : ∀ a0 a1 a2 a3 k, LeO (spec_l10Family.f k a0 a1 a2 a3) (spec_l10Family.f (k + 1) a0 a1 a2 a3) := by
 intro a0 a1 a2 a3 k
 have ih0 := spec_l10Family.mono_l k
 unfold spec_l10Family.f
 repeat' first
   | (with_reducible exact ih0 _ _ _ _)
   | (with_reducible exact spec_l10Known.mono _ _ _ _ _)
   | (with_reducible exact spec_l10Sets.mono _ _ _ _)
   | (with_reducible exact LeO.refl _)
   | (with_reducible exact LeO.none _)
   | (with_reducible refine LeO.ite ?_ ?_)
   | (with_reducible refine LeO.bind ?_ (fun _ => ?_))
   | exact ih0 _ _ _ _
   | exact spec_l10Known.mono _ _ _ _ _
   | exact spec_l10Sets.mono _ _ _ _
   | exact LeO.none _
   | refine LeO.ite ?_ ?_
   | refine LeO.bind ?_ (fun _ => ?_)
def spec_l10Family.T1 : Bool × List (List Nat × List Nat) := (true, [([], []), ([], []), ([], []), ([1, 2], [1, 2]), ([], []), ([], []), ([], []), ([4, 5, 6, 3], [4, 5, 6]), ([0, 7, 0], [0]), ([3, 8, 0, 1, 2, 3, 8], [3]), ([7, 9, 0, 1, 2, 3, 4, 5, 6, 7, 8, 9], [7])])
def spec_l10Family.B1 : List Nat := [0, 0, 0, 6, 0, 0, 0, 126, 255, 511, 1023]
theorem spec_l10Family.tab1 : rtab .any (opsOf Tryd.f106 1) = spec_l10Family.T1 := by kernel_rfl
theorem spec_l10Family.bits1 : waitsOk spec_l10Family.T1.2 spec_l10Family.B1 = true := by kernel_rfl
set_option maxHeartbeats 8000000 in
set_option maxRecDepth 100000 in
theorem spec_l10Family.calls (k : Nat) (a0_0 : Int) (A0_1 : Option Addr) (c0_1 : Nat) (l0_1 : List (S92)) (a1 : Int) (a2 : Bool) (r : List (List Int)) (w : World) (hr0_1 : Kd.C k92 w A0_1 l0_1.length l0_1) (hc0_1 : l0_1.length ≤ c0_1) (h : spec_l10Family.f k a0_0 l0_1 a1 a2 = some r) :
  Calls Tryd.prog 106 #[.agg #[.int .i64 a0_0, .slice A0_1 l0_1.length c0_1], .int .i64 a1, .bool a2] w fun e w' => ∃ v0_ : Value, e = .returned (v0_) ∧ Kd.N (Kd.slice 3 (Kd.int .i64)) 32 w' w.heap.size (fun k_ => (w.heap.size ≤ k_)) v0_ r ∧ Below w.heap.size w w' := by
 have hu28 := Tryd.underlying28
 have HR0_1 := Aside0.mk hr0_1
 have HC0_1 := Aside0.mk hc0_1
 clear hr0_1 hc0_1
 have HB := Aside0.mk (Below.refl w.heap.size w)
 have H : ((spec_l10Sets.f k a0_0 l0_1 a1).bind fun t304 => ((spec_l10Known.f k a0_0 l0_1 a1 a2).bind fun t307 => (spec_l10Family.l0 k (([] : List (List Int))) t304 t307 0))) = some r := h
 clear h
 obtain ⟨y301, hy301⟩ : ∃ y_ : List (List Int), y_ = (([] : List (List Int))) := ⟨_, rfl⟩
 replace H : ((spec_l10Sets.f k a0_0 l0_1 a1).bind fun t304 => ((spec_l10Known.f k a0_0 l0_1 a1 a2).bind fun t307 => (spec_l10Family.l0 k y301 t304 t307 0))) = some r := by first | (rw [hy301];with_reducible exact H) | (have H2_ := (Option.bind_some _ _).symm.trans H;rw [hy301];with_reducible exact H2_) | (have H2_ := (Option.bind_some _ _).symm.trans H;with_reducible exact H2_) | with_reducible exact H | (rw [hy301];exact H) | exact H
 have Ny301 := Aside0.mk hy301
 clear hy301
 replace H := Option.bind_eq_some_iff.mp H
 obtain ⟨t304, A40, H⟩ := H
 replace H : ((spec_l10Known.f k a0_0 l0_1 a1 a2).bind fun t307 => (spec_l10Family.l0 k y301 t304 t307 0)) = some r := H
 have A4 := Aside0.mk A40
 clear A40
 replace H := Option.bind_eq_some_iff.mp H
 obtain ⟨t307, A50, H⟩ := H
 replace H : (spec_l10Family.l0 k y301 t304 t307 0) = some r := H
 have A5 := Aside0.mk A50
 clear A50
 have H' := Aside0.mk H
 clear H
 go_enter Tryd.func106, Tryd.ntmps106
 try go_wp2_with (first | ((with_reducible refine gate_dst (N := 3) rfl ?_);refine box_event ?hg (N := 3) ?hd (cs := #[.int .i64 a0_0, .slice A0_1 l0_1.length c0_1]) (t := 28) ?hr ?_;(case hd => rfl);(case hg => rfl);(case hr => first | (go_simp;done) | (go_simp;rfl));intro gb300 hg w6 hbox hb;have n0_ := Aside0.mk (below_step (by exact bB) hb);have n1_ := Aside0.mk (hbox);have n2_ := Aside0.mk ((by rw [hg];exact (below_size (by exact bB)) : w.heap.size ≤ gb300));have n3_ := Aside0.mk ((by rw [hg];exact (below_size (by exact bB)) : w.heap.size ≤ gb300));clear HB;have HB := n0_;have BK300 := n1_;have GW300 := n2_;have GE300 := n3_;clear n0_ n1_ n2_ n3_;clear hb hbox hg))
 have n0_ := Aside0.mk (blk_drew BK300.out)
 have n1_ := Aside0.mk (below_drew1 HB.out)
 clear BK300
 clear HB
 have BK300 := n0_
 have HB := n1_
 clear n0_ n1_
 refine start_ (n := 11) (S := fun w' => True) (ds := []) #[false,false,false,false,false,false,false,false,false,false,false] (by kernel_rfl) rfl rfl trivial (fun hHeld => ?_);refine with_tabW spec_l10Family.tab1 spec_l10Family.bits1 (fun HT_ HW_ => ?_)
 generalize w6.drew = w7 at BK300 HB hHeld ⊢
 refine pure_ (i := 2) (N := some 13) (v := ?_) (a' := ?_) #[false,false,true,false,false,false,false,false,false,false,false] rfl rfl (any_of HT_.out (by kernel_rfl)) (fun _ _ _ h => h) (Or.inl ⟨by rfl, ?_⟩) ?_ ?_
 rotate_left
 ·intro w'
  go_simp
  with_reducible rfl
 rotate_left
 ·simp only [Act.put, List.setIfInBounds_toArray, List.set_cons_zero, List.set_cons_succ, i64_w, i32_w]
  rfl
 refine pure_ (i := 5) (N := some 16) (v := ?_) (a' := ?_) #[false,false,true,false,false,true,false,false,false,false,false] rfl rfl (any_of HT_.out (by kernel_rfl)) (fun _ _ _ h => h) (Or.inl ⟨by rfl, ?_⟩) ?_ ?_
 rotate_left
 ·intro w'
  go_simp
  with_reducible rfl
 rotate_left
 ·simp only [Act.put, List.setIfInBounds_toArray, List.set_cons_zero, List.set_cons_succ, i64_w, i32_w]
  rfl
 refine pure_ (i := 6) (N := some 17) (v := ?_) (a' := ?_) #[false,false,true,false,false,true,true,false,false,false,false] rfl rfl (any_of HT_.out (by kernel_rfl)) (fun _ _ _ h => h) (Or.inl ⟨by rfl, ?_⟩) ?_ ?_
 rotate_left
 ·intro w'
  go_simp
  with_reducible rfl
 rotate_left
 ·simp only [Act.put, List.setIfInBounds_toArray, List.set_cons_zero, List.set_cons_succ, i64_w, i32_w]
  rfl
 refine inv_at [0, 1, 3, 4, 7, 8, 9, 10] (fun a0_ b a w' => ∃ (v302 : Value) (v305 : Value) (v308 : Value) (m8_ : Value) (m9_ : Value) (m10_ : Value), a = putSel a0_ b [(0, 11, v302), (1, 12, .agg #[.int .i64 a0_0, .slice A0_1 l0_1.length c0_1]), (3, 14, v305), (4, 15, .agg #[.int .i64 a0_0, .slice A0_1 l0_1.length c0_1]), (7, 18, v308), (8, 7, m8_), (9, 8, m9_), (10, 9, m10_)] ∧ (w'.heap[gb300]? = some (.cells #[.int .i64 a0_0, .slice A0_1 l0_1.length c0_1] 28 (0, 0))) ∧ (Below w.heap.size w w') ∧ (b 0 = true → Kd.N (Kd.slice 3 (Kd.int .i64)) 32 w' w.heap.size (fun k_ => (w.heap.size ≤ k_) ∧ k_ ≠ gb300 ∧ (b 3 = true → some k_ ≠ v305.ownBlock) ∧ (b 7 = true → some k_ ≠ v308.ownBlock)) v302 y301) ∧ (b 3 = true → Kd.N (Kd.slice 3 (Kd.int .i64)) 32 w' w.heap.size (fun k_ => (w.heap.size ≤ k_) ∧ k_ ≠ gb300 ∧ (b 0 = true → some k_ ≠ v302.ownBlock) ∧ (b 7 = true → some k_ ≠ v308.ownBlock)) v305 t304) ∧ (b 7 = true → Kd.R (Kd.int .i64) 3 w' w.heap.size (fun k_ => (w.heap.size ≤ k_)) v308 t307) ∧ (b 8 = true → (m8_ : Value) = v302) ∧ (b 9 = true → (m9_ : Value) = v305) ∧ (b 10 = true → (m10_ : Value) = v308)) HT_.out HW_.out (by kernel_rfl) (by kernel_rfl) ?_ ?_ ?_
 ·exact ⟨.bool false, .bool false, .bool false, .bool false, .bool false, .bool false, by simp only [putSel, Bool.false_eq_true, if_false], BK300.out, HB.out, fun h_ => absurd h_ (by decide), fun h_ => absurd h_ (by decide), fun h_ => absurd h_ (by decide), fun h_ => absurd h_ (by decide), fun h_ => absurd h_ (by decide), fun h_ => absurd h_ (by decide)⟩
 ·skip
  clear BK300 HB
  refine steps_cons ?_ ?_
  ·rintro b a w' ⟨v302, v305, v308, m8_, m9_, m10_, ha, Q_BK300, Q_HB, Q_HO303, Q_HO306, Q_HO309, Q_X8_, Q_X9_, Q_X10_⟩ hb_ hon hoff
   refine ⟨_, rfl, fun K hK => ?_⟩
   replace ha := Aside0.mk ha
   have BK300 := Aside0.mk Q_BK300
   have HB := Aside0.mk Q_HB
   refine Kd.N_lit_step (Kd.slice 3 (Kd.int .i64)) _ 32 ?hg (N' := 11) ?hd (xs := ([] : List (List Int))) (inner := []) (ok := (fun k_ => (w.heap.size ≤ k_) ∧ k_ ≠ gb300 ∧ (b 3 = true → some k_ ≠ v305.ownBlock) ∧ (b 7 = true → some k_ ≠ v308.ownBlock))) (okp := (fun k_ => (w.heap.size ≤ k_) ∧ k_ ≠ gb300 ∧ (b 3 = true → some k_ ≠ v305.ownBlock) ∧ (b 7 = true → some k_ ≠ v308.ownBlock))) ?hr ?hp (fun _ hk => hk) ((show ∀ k_, w'.heap.size ≤ k_ → (fun k_ => (w.heap.size ≤ k_) ∧ k_ ≠ gb300 ∧ (b 3 = true → some k_ ≠ v305.ownBlock) ∧ (b 7 = true → some k_ ≠ v308.ownBlock)) k_ from fun k_ hk => ⟨(Nat.le_trans (below_size (by exact bB)) hk), Kd.freshB (g := gb300) (o := .cells #[.int .i64 a0_0, .slice A0_1 l0_1.length c0_1] 28 (0, 0)) (by exact kP BK300.out) k_ hk, fun h0_ => Kd.fresh' (Kd.N_lt (Q_HO306 h0_)) k_ hk, fun h0_ => Kd.fresh' (Kd.R_lt (Q_HO309 h0_)) k_ hk⟩) _ (Nat.le_refl _)) (Below.refl _ _) (Nat.le_refl _) (by simp) ?_;(case hd => rfl);(case hg => rfl);(case hr => first | (go_simp;done) | (go_simp;rfl));(case hp => exact (Reps.none _ _))
   intro v302 w8 ho9 hb hg_ hnew_
   clear hg_ hnew_
   (first | rw [← Ny301.out] at ho9 | (simp only [Int.reduceToNat] at ho9;rw [← Ny301.out] at ho9))
   have n0_ := Aside0.mk (Kd.N_lower ho9 (below_size (by exact bB)))
   have n1_ := Aside0.mk (blk_below (g := gb300) (o := .cells #[.int .i64 a0_0, .slice A0_1 l0_1.length c0_1] 28 (0, 0)) (by exact kP BK300.out) hb)
   have n2_ := Aside0.mk (below_step (by exact bB) hb)
   have z_HO306 := fun (h0_ : b 3 = true) => (Kd.N_elder' (by (with_reducible repeat (first | apply Kd.N_alloc | apply Kd.N_drewN | apply Kd.N_drew));exact (Q_HO306 h0_)) (Kd.N_base ho9) hb)
   have z_HO309 := fun (h0_ : b 7 = true) => (show Kd.R (Kd.int .i64) 3 w8 w.heap.size (fun k_ => (w.heap.size ≤ k_)) v308 t307 from by first | exact (Kd.R_below (by refine rP ?_;exact (Q_HO309 h0_)) hb) | exact Kd.R_mono (Kd.R_below (by refine rP ?_;exact (Q_HO309 h0_)) hb) (fun _ h_ => by first | trivial | exact h_ | exact h_.1))
   clear BK300
   clear HB
   have HO303 := n0_
   have BK300 := n1_
   have HB := n2_
   clear n0_ n1_ n2_
   clear hb ho9
   refine hK.out _ _ ⟨v302, v305, v308, m8_, m9_, m10_, (by rw [ha.out];exact putSel_upk 0 hb_ rfl rfl rfl), (by exact kP BK300.out), (by exact bB), fun _ => (by (with_reducible repeat (first | apply Kd.N_alloc | apply Kd.N_drewN | apply Kd.N_drew));exact HO303.out), fun h0_ => Kd.N_mono (z_HO306 h0_) (fun _ h_ => ⟨h_.1.1, h_.1.2.1, fun _ => h_.2, h_.1.2.2.2⟩), z_HO309, fun h0_ => absurd ((hoff 8 (by kernel_rfl)).symm.trans h0_) (by decide), fun h0_ => absurd ((hoff 9 (by kernel_rfl)).symm.trans h0_) (by decide), fun h0_ => absurd ((hoff 10 (by kernel_rfl)).symm.trans h0_) (by decide)⟩
  refine steps_cons ?_ ?_
  ·rintro b a w' ⟨v302, v305, v308, m8_, m9_, m10_, ha, Q_BK300, Q_HB, Q_HO303, Q_HO306, Q_HO309, Q_X8_, Q_X9_, Q_X10_⟩ hb_ hon hoff
   refine ⟨_, rfl, fun K hK => ?_⟩
   have e3 : a.tmps[3]? = some (.pointer (some ⟨gb300, 0, none⟩)) := by rw [ha];exact (putSel_off rfl).trans rfl
   replace ha := Aside0.mk ha
   have BK300 := Aside0.mk Q_BK300
   have HB := Aside0.mk Q_HB
   have hc0_ : w'.cell? ⟨gb300, 0, none⟩ = some (.int .i64 a0_0) := (blk_cell BK300.out 0).trans rfl
   have hc1_ : w'.cell? ⟨gb300, 1, none⟩ = some (.slice A0_1 l0_1.length c0_1) := (blk_cell BK300.out 1).trans rfl
   refine value_ (w1 := w') (v := .agg #[.int .i64 a0_0, .slice A0_1 l0_1.length c0_1]) (by rfl) rfl ?_ ?_
   ·go_simp
    (try simp only [i64_w])
    try rfl
   refine hK.out _ _ ⟨v302, v305, v308, m8_, m9_, m10_, (by rw [ha.out];exact putSel_upk 1 hb_ rfl rfl rfl), Q_BK300, Q_HB, Q_HO303, fun h0_ => absurd ((hoff 3 (by kernel_rfl)).symm.trans h0_) (by decide), fun h0_ => absurd ((hoff 7 (by kernel_rfl)).symm.trans h0_) (by decide), fun h0_ => absurd ((hoff 8 (by kernel_rfl)).symm.trans h0_) (by decide), fun h0_ => absurd ((hoff 9 (by kernel_rfl)).symm.trans h0_) (by decide), fun h0_ => absurd ((hoff 10 (by kernel_rfl)).symm.trans h0_) (by decide)⟩
  refine steps_cons ?_ ?_
  ·rintro b a w' ⟨v302, v305, v308, m8_, m9_, m10_, ha, Q_BK300, Q_HB, Q_HO303, Q_HO306, Q_HO309, Q_X8_, Q_X9_, Q_X10_⟩ hb_ hon hoff
   refine ⟨_, rfl, fun K hK => ?_⟩
   have e12 : a.tmps[12]? = some (.agg #[.int .i64 a0_0, .slice A0_1 l0_1.length c0_1]) := by rw [ha];exact putSel_on (e := (1, 12, .agg #[.int .i64 a0_0, .slice A0_1 l0_1.length c0_1])) 1 rfl rfl (hon 1 (by kernel_rfl)) rfl
   have e13 : a.tmps[13]? = some (.int .i64 a1) := by rw [ha];exact (putSel_off rfl).trans rfl
   replace ha := Aside0.mk ha
   have BK300 := Aside0.mk Q_BK300
   have HB := Aside0.mk Q_HB
   refine goes_ Tryd.func70 (by kernel_rfl) rfl #[.agg #[.int .i64 a0_0, .slice A0_1 l0_1.length c0_1], .int .i64 a1] (by rfl) rfl rfl (by first | (simp only [List.map_toArray, List.map_cons, List.map_nil, Act.eval, Array.getD_eq_getD_getElem?, Option.getD_some, e12, e13];done) | (simp only [List.map_toArray, List.map_cons, List.map_nil, Act.eval, Array.getD_eq_getD_getElem?, Option.getD_some, e12, e13];rfl)) ?_
   with_reducible refine (spec_l10Sets.calls k a0_0 _ _ l0_1 a1 t304 _ ?side1 ?side2 A4.out).mono ?_
   (case side1 => exact cP (Kd.C_below HR0_1.out HB.out))
   (case side2 => exact HC0_1.out)
   rintro e w8 ⟨v305, rfl, ho0, hb⟩
   refine ⟨_, rfl, ?_⟩
   have n0_ := Aside0.mk (Kd.N_lower (Kd.N_mono (ok' := fun k_ => (w.heap.size ≤ k_) ∧ k_ ≠ gb300 ∧ (b 0 = true → some k_ ≠ v302.ownBlock) ∧ (b 7 = true → some k_ ≠ v308.ownBlock)) ho0 (fun k_ hk_ => ⟨(Nat.le_trans (below_size (by exact bB)) hk_), (Kd.freshB (g := gb300) (o := .cells #[.int .i64 a0_0, .slice A0_1 l0_1.length c0_1] 28 (0, 0)) (by exact kP BK300.out) k_ hk_), fun h0_ => Kd.fresh' (Kd.N_lt (Q_HO303 h0_)) k_ hk_, fun h0_ => absurd ((hoff 7 (by kernel_rfl)).symm.trans h0_) (by decide)⟩)) (below_size (by exact bB)))
   have n1_ := Aside0.mk (blk_below (g := gb300) (o := .cells #[.int .i64 a0_0, .slice A0_1 l0_1.length c0_1] 28 (0, 0)) (by exact kP BK300.out) hb)
   have n2_ := Aside0.mk (below_step (by exact bB) hb)
   have z_HO303 := fun (h0_ : b 0 = true) => (Kd.N_elder' (by (with_reducible repeat (first | apply Kd.N_alloc | apply Kd.N_drewN | apply Kd.N_drew));exact (Q_HO303 h0_)) (Kd.N_base ho0) hb)
   clear BK300
   clear HB
   have HO306 := n0_
   have BK300 := n1_
   have HB := n2_
   clear n0_ n1_ n2_
   (try clear hb)
   (try clear hb2)
   (try clear hk)
   (try clear hi)
   (try clear ho0)
   refine hK.out _ _ ⟨v302, v305, v308, m8_, m9_, m10_, (by rw [ha.out];exact putSel_upk 2 hb_ rfl rfl rfl), (by exact kP BK300.out), (by exact bB), fun h0_ => Kd.N_mono (z_HO303 h0_) (fun _ h_ => ⟨h_.1.1, h_.1.2.1, fun _ => h_.2, h_.1.2.2.2⟩), fun _ => (by (with_reducible repeat (first | apply Kd.N_alloc | apply Kd.N_drewN | apply Kd.N_drew));exact HO306.out), fun h0_ => absurd ((hoff 7 (by kernel_rfl)).symm.trans h0_) (by decide), fun h0_ => absurd ((hoff 8 (by kernel_rfl)).symm.trans h0_) (by decide), fun h0_ => absurd ((hoff 9 (by kernel_rfl)).symm.trans h0_) (by decide), fun h0_ => absurd ((hoff 10 (by kernel_rfl)).symm.trans h0_) (by decide)⟩
  refine steps_cons ?_ ?_
  ·rintro b a w' ⟨v302, v305, v308, m8_, m9_, m10_, ha, Q_BK300, Q_HB, Q_HO303, Q_HO306, Q_HO309, Q_X8_, Q_X9_, Q_X10_⟩ hb_ hon hoff
   refine ⟨_, rfl, fun K hK => ?_⟩
   have e3 : a.tmps[3]? = some (.pointer (some ⟨gb300, 0, none⟩)) := by rw [ha];exact (putSel_off rfl).trans rfl
   replace ha := Aside0.mk ha
   have BK300 := Aside0.mk Q_BK300
   have HB := Aside0.mk Q_HB
   have hc0_ : w'.cell? ⟨gb300, 0, none⟩ = some (.int .i64 a0_0) := (blk_cell BK300.out 0).trans rfl
   have hc1_ : w'.cell? ⟨gb300, 1, none⟩ = some (.slice A0_1 l0_1.length c0_1) := (blk_cell BK300.out 1).trans rfl
   refine value_ (w1 := w') (v := .agg #[.int .i64 a0_0, .slice A0_1 l0_1.length c0_1]) (by rfl) rfl ?_ ?_
   ·go_simp
    (try simp only [i64_w])
    try rfl
   refine hK.out _ _ ⟨v302, v305, v308, m8_, m9_, m10_, (by rw [ha.out];exact putSel_upk 3 hb_ rfl rfl rfl), Q_BK300, Q_HB, Q_HO303, Q_HO306, fun h0_ => absurd ((hoff 7 (by kernel_rfl)).symm.trans h0_) (by decide), fun h0_ => absurd ((hoff 8 (by kernel_rfl)).symm.trans h0_) (by decide), fun h0_ => absurd ((hoff 9 (by kernel_rfl)).symm.trans h0_) (by decide), fun h0_ => absurd ((hoff 10 (by kernel_rfl)).symm.trans h0_) (by decide)⟩
  refine steps_cons ?_ ?_
  ·rintro b a w' ⟨v302, v305, v308, m8_, m9_, m10_, ha, Q_BK300, Q_HB, Q_HO303, Q_HO306, Q_HO309, Q_X8_, Q_X9_, Q_X10_⟩ hb_ hon hoff
   refine ⟨_, rfl, fun K hK => ?_⟩
   have e15 : a.tmps[15]? = some (.agg #[.int .i64 a0_0, .slice A0_1 l0_1.length c0_1]) := by rw [ha];exact putSel_on (e := (4, 15, .agg #[.int .i64 a0_0, .slice A0_1 l0_1.length c0_1])) 3 rfl rfl (hon 4 (by kernel_rfl)) rfl
   have e16 : a.tmps[16]? = some (.int .i64 a1) := by rw [ha];exact (putSel_off rfl).trans rfl
   have e17 : a.tmps[17]? = some (.bool a2) := by rw [ha];exact (putSel_off rfl).trans rfl
   replace ha := Aside0.mk ha
   have BK300 := Aside0.mk Q_BK300
   have HB := Aside0.mk Q_HB
   have HO306 := Aside0.mk (Q_HO306 (hon 3 (by kernel_rfl)))
   refine goes_ Tryd.func78 (by kernel_rfl) rfl #[.agg #[.int .i64 a0_0, .slice A0_1 l0_1.length c0_1], .int .i64 a1, .bool a2] (by rfl) rfl rfl (by first | (simp only [List.map_toArray, List.map_cons, List.map_nil, Act.eval, Array.getD_eq_getD_getElem?, Option.getD_some, e15, e16, e17];done) | (simp only [List.map_toArray, List.map_cons, List.map_nil, Act.eval, Array.getD_eq_getD_getElem?, Option.getD_some, e15, e16, e17];rfl)) ?_
   with_reducible refine (spec_l10Known.calls k a0_0 _ _ l0_1 a1 a2 t307 _ ?side1 ?side2 A5.out).mono ?_
   (case side1 => exact cP (Kd.C_below HR0_1.out HB.out))
   (case side2 => exact HC0_1.out)
   rintro e w10 ⟨v308, rfl, ho0, hb⟩
   refine ⟨_, rfl, ?_⟩
   have n0_ := Aside0.mk (Kd.N_elder' (by (with_reducible repeat (first | apply Kd.N_alloc | apply Kd.N_drewN | apply Kd.N_drew));exact HO306.out) (Kd.R_base ho0) hb)
   have n1_ := Aside0.mk (Kd.R_lower (Kd.R_newM (M := fun k_ => (w.heap.size ≤ k_)) ho0 (below_size (by exact bB)) (fun k_ h_ => h_)) (below_size (by exact bB)))
   have n2_ := Aside0.mk (blk_below (g := gb300) (o := .cells #[.int .i64 a0_0, .slice A0_1 l0_1.length c0_1] 28 (0, 0)) (by exact kP BK300.out) hb)
   have n3_ := Aside0.mk (below_step (by exact bB) hb)
   have z_HO303 := fun (h0_ : b 0 = true) => (Kd.N_elder' (by (with_reducible repeat (first | apply Kd.N_alloc | apply Kd.N_drewN | apply Kd.N_drew));exact (Q_HO303 h0_)) (Kd.R_base ho0) hb)
   clear HO306
   clear BK300
   clear HB
   have HO306 := n0_
   have HO309 := n1_
   have BK300 := n2_
   have HB := n3_
   clear n0_ n1_ n2_ n3_
   (try clear hb)
   (try clear hb2)
   (try clear hk)
   (try clear hi)
   (try clear ho0)
   refine hK.out _ _ ⟨v302, v305, v308, m8_, m9_, m10_, (by rw [ha.out];exact putSel_upk 4 hb_ rfl rfl rfl), (by exact kP BK300.out), (by exact bB), fun h0_ => Kd.N_mono (z_HO303 h0_) (fun _ h_ => ⟨h_.1.1, h_.1.2.1, h_.1.2.2.1, fun _ => h_.2⟩), fun _ => (by (with_reducible repeat (first | apply Kd.N_alloc | apply Kd.N_drewN | apply Kd.N_drew));exact Kd.N_mono HO306.out (fun _ hk => ⟨hk.1.1, hk.1.2.1, hk.1.2.2.1, fun _ => hk.2⟩)), fun _ => (by refine rP ?_;exact Kd.R_mono HO309.out (fun _ hk => hk.1)), fun h0_ => absurd ((hoff 8 (by kernel_rfl)).symm.trans h0_) (by decide), fun h0_ => absurd ((hoff 9 (by kernel_rfl)).symm.trans h0_) (by decide), fun h0_ => absurd ((hoff 10 (by kernel_rfl)).symm.trans h0_) (by decide)⟩
  refine steps_cons ?_ ?_
  ·rintro b a w' ⟨v302, v305, v308, m8_, m9_, m10_, ha, Q_BK300, Q_HB, Q_HO303, Q_HO306, Q_HO309, Q_X8_, Q_X9_, Q_X10_⟩ hb_ hon hoff
   refine ⟨_, rfl, fun K hK => ?_⟩
   have e11 : a.tmps[11]? = some (v302) := by rw [ha];exact putSel_on (e := (0, 11, v302)) 0 rfl rfl (hon 0 (by kernel_rfl)) rfl
   replace ha := Aside0.mk ha
   have BK300 := Aside0.mk Q_BK300
   have HB := Aside0.mk Q_HB
   have HO303 := Aside0.mk (Q_HO303 (hon 0 (by kernel_rfl)))
   have HO306 := Aside0.mk (Q_HO306 (hon 3 (by kernel_rfl)))
   have HO309 := Aside0.mk (Q_HO309 (hon 7 (by kernel_rfl)))
   refine value_ (w1 := w') (v := v302) (by rfl) rfl ?_ ?_
   ·go_simp
    (try simp only [i64_w])
    try rfl
   refine hK.out _ _ ⟨v302, v305, v308, (v302), m9_, m10_, (by rw [ha.out];exact putSel_upk 5 hb_ rfl rfl rfl), Q_BK300, Q_HB, Q_HO303, Q_HO306, Q_HO309, fun _ => rfl, fun h0_ => absurd ((hoff 9 (by kernel_rfl)).symm.trans h0_) (by decide), fun h0_ => absurd ((hoff 10 (by kernel_rfl)).symm.trans h0_) (by decide)⟩
  refine steps_cons ?_ ?_
  ·rintro b a w' ⟨v302, v305, v308, m8_, m9_, m10_, ha, Q_BK300, Q_HB, Q_HO303, Q_HO306, Q_HO309, Q_X8_, Q_X9_, Q_X10_⟩ hb_ hon hoff
   refine ⟨_, rfl, fun K hK => ?_⟩
   have e14 : a.tmps[14]? = some (v305) := by rw [ha];exact putSel_on (e := (3, 14, v305)) 2 rfl rfl (hon 3 (by kernel_rfl)) rfl
   replace ha := Aside0.mk ha
   have BK300 := Aside0.mk Q_BK300
   have HB := Aside0.mk Q_HB
   have HO303 := Aside0.mk (Q_HO303 (hon 0 (by kernel_rfl)))
   have HO306 := Aside0.mk (Q_HO306 (hon 3 (by kernel_rfl)))
   have HO309 := Aside0.mk (Q_HO309 (hon 7 (by kernel_rfl)))
   refine value_ (w1 := w') (v := v305) (by rfl) rfl ?_ ?_
   ·go_simp
    (try simp only [i64_w])
    try rfl
   refine hK.out _ _ ⟨v302, v305, v308, m8_, (v305), m10_, (by rw [ha.out];exact putSel_upk 6 hb_ rfl rfl rfl), Q_BK300, Q_HB, Q_HO303, Q_HO306, Q_HO309, Q_X8_, fun _ => rfl, fun h0_ => absurd ((hoff 10 (by kernel_rfl)).symm.trans h0_) (by decide)⟩
  refine steps_cons ?_ ?_
  ·rintro b a w' ⟨v302, v305, v308, m8_, m9_, m10_, ha, Q_BK300, Q_HB, Q_HO303, Q_HO306, Q_HO309, Q_X8_, Q_X9_, Q_X10_⟩ hb_ hon hoff
   refine ⟨_, rfl, fun K hK => ?_⟩
   have e18 : a.tmps[18]? = some (v308) := by rw [ha];exact putSel_on (e := (7, 18, v308)) 4 rfl rfl (hon 7 (by kernel_rfl)) rfl
   replace ha := Aside0.mk ha
   have BK300 := Aside0.mk Q_BK300
   have HB := Aside0.mk Q_HB
   have HO303 := Aside0.mk (Q_HO303 (hon 0 (by kernel_rfl)))
   have HO306 := Aside0.mk (Q_HO306 (hon 3 (by kernel_rfl)))
   have HO309 := Aside0.mk (Q_HO309 (hon 7 (by kernel_rfl)))
   refine value_ (w1 := w') (v := v308) (by rfl) rfl ?_ ?_
   ·go_simp
    (try simp only [i64_w])
    try rfl
   refine hK.out _ _ ⟨v302, v305, v308, m8_, m9_, (v308), (by rw [ha.out];exact putSel_upk 7 hb_ rfl rfl rfl), Q_BK300, Q_HB, Q_HO303, Q_HO306, Q_HO309, Q_X8_, Q_X9_, fun _ => rfl⟩
  exact steps_nil
 rintro b a w12 hall ⟨v302, v305, v308, m8_, m9_, m10_, ha, Q_BK300, Q_HB, Q_HO303, Q_HO306, Q_HO309, Q_X8_, Q_X9_, Q_X10_⟩
 clear BK300 HB
 have hb0_ := hall 0 (by kernel_rfl)
 have hb1_ := hall 1 (by kernel_rfl)
 have hb3_ := hall 3 (by kernel_rfl)
 have hb4_ := hall 4 (by kernel_rfl)
 have hb7_ := hall 7 (by kernel_rfl)
 have hb8_ := hall 8 (by kernel_rfl)
 have hb9_ := hall 9 (by kernel_rfl)
 have hb10_ := hall 10 (by kernel_rfl)
 subst ha
 obtain rfl := (Q_X8_ hb8_).symm
 obtain rfl := (Q_X9_ hb9_).symm
 obtain rfl := (Q_X10_ hb10_).symm
 simp only [putSel, hb0_, hb1_, hb3_, hb4_, hb7_, hb8_, hb9_, hb10_, if_true, Act.put, List.setIfInBounds_toArray, List.set_cons_zero, List.set_cons_succ]
 have BK300 := Aside0.mk Q_BK300
 clear Q_BK300
 have HB := Aside0.mk Q_HB
 clear Q_HB
 have HO303 : Aside0 (Kd.N (Kd.slice 3 (Kd.int .i64)) 32 w12 w.heap.size (fun k_ => (w.heap.size ≤ k_) ∧ some k_ ≠ (v305 : Value).ownBlock ∧ some k_ ≠ (v308 : Value).ownBlock ∧ k_ ≠ gb300) v302 y301) := ⟨Kd.N_mono (Q_HO303 hb0_) (fun _ h_ => ⟨h_.1, h_.2.2.1 hb3_, h_.2.2.2 hb7_, h_.2.1⟩)⟩
 clear Q_HO303
 have HO306 : Aside0 (Kd.N (Kd.slice 3 (Kd.int .i64)) 32 w12 w.heap.size (fun k_ => (w.heap.size ≤ k_) ∧ some k_ ≠ (v302 : Value).ownBlock ∧ some k_ ≠ (v308 : Value).ownBlock ∧ k_ ≠ gb300) v305 t304) := ⟨Kd.N_mono (Q_HO306 hb3_) (fun _ h_ => ⟨h_.1, h_.2.2.1 hb0_, h_.2.2.2 hb7_, h_.2.1⟩)⟩
 clear Q_HO306
 have HO309 := Aside0.mk (Q_HO309 hb7_)
 clear Q_HO309
 clear hall hb0_ hb1_ hb3_ hb4_ hb7_ hb8_ hb9_ hb10_
 try go_wp2
 go_loopg [7, 10] k (fun kq v7 v10 w' => ∃ (x7_1 : List (List Int)) (x10_1 : Int), v10 = .int .i64 x10_1 ∧ Aside0 (spec_l10Family.l0 kq x7_1 t304 t307 x10_1 = some r) ∧ Aside0 (kq ≤ k) ∧ Aside0 (Kd.N (Kd.slice 3 (Kd.int .i64)) 32 w' w.heap.size (fun k_ => (w.heap.size ≤ k_) ∧ some k_ ≠ (v305 : Value).ownBlock ∧ some k_ ≠ (v308 : Value).ownBlock ∧ k_ ≠ gb300) v7 x7_1) ∧ Aside0 (Kd.N (Kd.slice 3 (Kd.int .i64)) 32 w' w.heap.size (fun k_ => (w.heap.size ≤ k_) ∧ some k_ ≠ (v7 : Value).ownBlock ∧ some k_ ≠ (v308 : Value).ownBlock ∧ k_ ≠ gb300) v305 t304) ∧ Aside0 (Kd.R (Kd.int .i64) 3 w' w.heap.size (fun k_ => (w.heap.size ≤ k_)) v308 t307) ∧ Aside0 (w'.heap[gb300]? = some (.cells #[.int .i64 a0_0, (.slice A0_1 l0_1.length c0_1)] 28 (0, 0))) ∧ Aside0 (Below w.heap.size w w'))
 case atStart => exact ⟨(y301), (0), (by first | rfl | (simp;done) | (simp [*];done)), H', ⟨Nat.le_refl _⟩, ⟨by (with_reducible repeat (first | apply Kd.N_alloc | apply Kd.N_drewN | apply Kd.N_drew));exact HO303.out⟩, ⟨by (with_reducible repeat (first | apply Kd.N_alloc | apply Kd.N_drewN | apply Kd.N_drew));exact HO306.out⟩, ⟨by exact rP HO309.out⟩, ⟨by exact kP BK300.out⟩, ⟨by exact bB⟩⟩
 case round =>
  clear H'
  try clear c1
  try clear p2
  try clear c7
  try clear c10
  obtain ⟨x7_1, x10_1, rfl, HA, HK1, HO_7, HO_8, HO_9, BK300, HB⟩ := hrel
  cases gk with
  | zero => exact absurd HA.out (by simp [spec_l10Family.l0])
  | succ k1 =>
   have H := HA.out
   clear HA
   simp only [spec_l10Family.l0] at H
   by_cases c13 : x10_1 < (t304.length : Int)
   ·rw [if_pos c13] at H
    have c13b0 : decide (x10_1 < (t304.length : Int)) = true := decide_eq_true c13
    clear c13
    by_cases c14 : 0 ≤ x10_1
    ·rw [if_pos c14] at H
     have c14b0 : decide (0 ≤ x10_1) = true := decide_eq_true c14
     clear c14
     by_cases c15 : x10_1 < (t307.length : Int)
     ·rw [if_pos c15] at H
      have c15b0 : decide (x10_1 < (t307.length : Int)) = true := decide_eq_true c15
      clear c15
      by_cases c16 : (rd t307 x10_1) < 0
      ·rw [if_pos c16] at H
       have c16b0 : decide ((rd t307 x10_1) < 0) = true := decide_eq_true c16
       clear c16
       by_cases c17 : x7_1.length < 5864062014805
       ·rw [if_pos c17] at H
        have LMc17 := Aside0.mk c17
        clear c17
        obtain ⟨y312, hy312⟩ : ∃ y_ : List (List Int), y_ = (x7_1 ++ [rd_L2 t304 x10_1]) := ⟨_, rfl⟩
        replace H : (spec_l10Family.l0 k1 y312 t304 t307 (wrap64 (x10_1 + 1))) = some r := by first | (rw [hy312];with_reducible exact H) | (have H2_ := (Option.bind_some _ _).symm.trans H;rw [hy312];with_reducible exact H2_) | (have H2_ := (Option.bind_some _ _).symm.trans H;with_reducible exact H2_) | with_reducible exact H | (rw [hy312];exact H) | exact H
        have Ny312 := Aside0.mk hy312
        clear hy312
        have H' := Aside0.mk H
        clear H
        obtain ⟨Ao18, co18, eo18⟩ := Kd.N_slice HO_8.out
        subst eo18
        obtain ⟨Ao19, co19, eo19⟩ := Kd.R_slice HO_9.out
        subst eo19
        have p310 : 0 ≤ (x10_1 : Int) := oA
        have q310 : x10_1 < (t307.length : Int) := oA
        obtain ⟨ad310, e310, hx310_0⟩ := Kd.at_int (Kd.R_reads' HO_9.out).2.2 x10_1 p310 q310
        cases e310
        replace p310 := eq_true p310
        replace q310 := eq_true q310
        have p311 : 0 ≤ (x10_1 : Int) := oA
        have q311 : x10_1 < (t304.length : Int) := oA
        obtain ⟨ad311, A311_0, c311_0, e311, hx311_0, hl311_0, hi311_0⟩ := at_L2 (Kd.N_reads' HO_8.out).2.2 x10_1 p311 q311
        cases e311
        obtain ⟨ce311, hce311, hMe311, hcc311⟩ := Kd.N_get HO_8.out [] x10_1 p311 (by first | exact q311 | exact oA | (have e_ := (Kd.N_reads' HO_8.out).1;omega))
        obtain ⟨ua311_0, uc311_0, rfl, ul311_0, ge311_0⟩ := Kd.FK_slice_open hMe311
        have hv311_0 := hcc311 0 _ rfl
        rw [Nat.add_zero, show ((Kd.slice 3 (Kd.int .i64))).sz = 1 from rfl, Nat.mul_one] at hv311_0
        replace hv311_0 := Option.some.inj (hv311_0.symm.trans hx311_0)
        injection hv311_0 with hva_ hvn_ hvc_
        rw [hva_] at ge311_0
        rw [hvc_] at ul311_0
        have HL311_0 := Aside0.mk (show Kd.V (Kd.int .i64) 3 _ w.heap.size _ _ (rd_L2 t304 x10_1) from Kd.V_mk ul311_0 ge311_0)
        clear hva_ hvn_ hvc_ ge311_0 ul311_0
        clear hcc311 hce311
        have HR311_0 := Aside0.mk hi311_0
        have HC311_0 := Aside0.mk hl311_0
        clear hi311_0 hl311_0
        replace p311 := eq_true p311
        replace q311 := eq_true q311
        go_wp2_with (first | ((with_reducible refine gate_builtin (b := .append) (xs := #[.tmp 30, .tmp 35]) rfl ?_);at_builtin;refine Kd.N_append (Kd.slice 3 (Kd.int .i64)) (w0 := w) w.heap.size rfl (.tmp 30) (.tmp 35) 38 32 (.slice none 0 0) 24 rfl Tryd.underlying38 info32 rfl (by decide) (by omega) u7 x7_1 (rd_L2 t304 x10_1) [.slice A311_0 (rd_L2 t304 x10_1).length c311_0] (fun k_ => (w.heap.size ≤ k_) ∧ some k_ ≠ (.slice (some ad311) t304.length co18 : Value).ownBlock ∧ some k_ ≠ (.slice (some ad310) t307.length co19 : Value).ownBlock ∧ k_ ≠ gb300) (fun k_ => ((fun k_ => (w.heap.size ≤ k_) ∧ some k_ ≠ (.slice (some ad311) t304.length co18 : Value).ownBlock ∧ some k_ ≠ (.slice (some ad310) t307.length co19 : Value).ownBlock ∧ k_ ≠ gb300)) k_ ∧ some k_ ≠ (u7 : Value).ownBlock) rfl rfl ?aP (fun _ hk => hk) ?aF ?aO ?aB ?aS ?aL ?_;(case aP => exact (Kd.FK_slice_mk (Kd.V_reads' (Kd.V_mono (ok' := (fun k_ => ((fun k_ => (w.heap.size ≤ k_) ∧ some k_ ≠ (.slice (some ad311) t304.length co18 : Value).ownBlock ∧ some k_ ≠ (.slice (some ad310) t307.length co19 : Value).ownBlock ∧ k_ ≠ gb300)) k_ ∧ some k_ ≠ (u7 : Value).ownBlock)) (HL311_0.out) (fun k_ hk => ⟨⟨hk.1.1, ⟨hk.2, ⟨hk.1.2.2.1, hk.1.2.2.2⟩⟩⟩, hk.1.2.1⟩))).2.1 (Kd.V_F (Kd.V_mono (ok' := (fun k_ => ((fun k_ => (w.heap.size ≤ k_) ∧ some k_ ≠ (.slice (some ad311) t304.length co18 : Value).ownBlock ∧ some k_ ≠ (.slice (some ad310) t307.length co19 : Value).ownBlock ∧ k_ ≠ gb300)) k_ ∧ some k_ ≠ (u7 : Value).ownBlock)) (HL311_0.out) (fun k_ hk => ⟨⟨hk.1.1, ⟨hk.2, ⟨hk.1.2.2.1, hk.1.2.2.2⟩⟩⟩, hk.1.2.1⟩)))));(case aB => exact (by exact bB));(case aF => exact (fun k_ hk => ⟨(Nat.le_trans (below_size (by exact bB)) hk), Kd.fresh' (Kd.N_lt (by (with_reducible repeat (first | apply Kd.N_alloc | apply Kd.N_drewN | apply Kd.N_drew));exact HO_8.out)) k_ hk, Kd.fresh' (Kd.R_lt (by exact rP HO_9.out)) k_ hk, Kd.freshB (g := gb300) (o := .cells #[.int .i64 a0_0, .slice A0_1 l0_1.length c0_1] 28 (0, 0)) (by exact kP BK300.out) k_ hk⟩));(case aO => exact (by (with_reducible repeat (first | apply Kd.N_alloc | apply Kd.N_drewN | apply Kd.N_drew));exact HO_7.out));(case aS => exact (below_size (by exact bB)));(case aL => have := LMc17.out;omega);intro v313 w20 ho hb hg hat;rw [← Ny312.out] at ho;have n0_ := Aside0.mk (Kd.N_afterv (ok := (fun k_ => (w.heap.size ≤ k_) ∧ some k_ ≠ (.slice (some ad310) t307.length co19 : Value).ownBlock ∧ k_ ≠ gb300)) (by (with_reducible repeat (first | apply Kd.N_alloc | apply Kd.N_drewN | apply Kd.N_drew));exact Kd.N_mono HO_8.out (fun _ hk => ⟨⟨hk.1, ⟨hk.2.2.1, hk.2.2.2⟩⟩, hk.2.1⟩)) hg hat);have n1_ := Aside0.mk (Kd.R_over' (by exact rP HO_9.out) (Kd.N_typed (by (with_reducible repeat (first | apply Kd.N_alloc | apply Kd.N_drewN | apply Kd.N_drew));exact HO_7.out)) (by decide) hg);have n2_ := Aside0.mk (blk_grown (g := gb300) (o := .cells #[.int .i64 a0_0, .slice A0_1 l0_1.length c0_1] 28 (0, 0)) (by exact kP BK300.out) hg (Kd.N_ne HO_7.out BK300.out (by decide)));have n3_ := Aside0.mk (Kd.V_afterv (ok := (fun k_ => (w.heap.size ≤ k_) ∧ some k_ ≠ (.slice (some ad311) t304.length co18 : Value).ownBlock ∧ some k_ ≠ (.slice (some ad310) t307.length co19 : Value).ownBlock ∧ k_ ≠ gb300)) (by (with_reducible repeat (first | apply Kd.V_alloc | apply Kd.V_drewN | apply Kd.V_drew));exact Kd.V_mono HL311_0.out (fun _ hk => ⟨⟨hk.1.1, ⟨hk.2, ⟨hk.1.2.2.1, hk.1.2.2.2⟩⟩⟩, hk.1.2.1⟩)) hg hat);have n4_ := Aside0.mk (hb);have n5_ := Aside0.mk (ho);clear HO_8;clear HO_9;clear BK300;clear HL311_0;clear HB;clear HO_7;have HO_8 := n0_;have HO_9 := n1_;have BK300 := n2_;have HL311_0 := n3_;have HB := n4_;have HO314 := n5_;clear n0_ n1_ n2_ n3_ n4_ n5_;clear ho hb hg hat))
        go_roundg k1
        case measure => have := HK1.out;omega
        case rel => exact ⟨(y312), (wrap64 (x10_1 + 1)), (by first | rfl | (simp;done) | (simp [*];done)), H', ⟨by have := HK1.out;omega⟩, ⟨by (with_reducible repeat (first | apply Kd.N_alloc | apply Kd.N_drewN | apply Kd.N_drew));exact HO314.out⟩, ⟨by (with_reducible repeat (first | apply Kd.N_alloc | apply Kd.N_drewN | apply Kd.N_drew));exact Kd.N_mono HO_8.out (fun _ hk => ⟨hk.1.1, ⟨hk.2, ⟨hk.1.2.1, hk.1.2.2⟩⟩⟩)⟩, ⟨by exact rP HO_9.out⟩, ⟨by exact kP BK300.out⟩, ⟨by exact bB⟩⟩
       ·rw [if_neg c17] at H
        exact absurd H (by simp)
      ·rw [if_neg c16] at H
       have c16b0 : decide ((rd t307 x10_1) < 0) = false := decide_eq_false c16
       clear c16
       have H' := Aside0.mk H
       clear H
       obtain ⟨Ao21, co21, eo21⟩ := Kd.N_slice HO_8.out
       subst eo21
       obtain ⟨Ao22, co22, eo22⟩ := Kd.R_slice HO_9.out
       subst eo22
       have p310 : 0 ≤ (x10_1 : Int) := oA
       have q310 : x10_1 < (t307.length : Int) := oA
       obtain ⟨ad310, e310, hx310_0⟩ := Kd.at_int (Kd.R_reads' HO_9.out).2.2 x10_1 p310 q310
       cases e310
       replace p310 := eq_true p310
       replace q310 := eq_true q310
       go_wp2
       go_roundg k1
       case measure => have := HK1.out;omega
       case rel => exact ⟨(x7_1), (wrap64 (x10_1 + 1)), (by first | rfl | (simp;done) | (simp [*];done)), H', ⟨by have := HK1.out;omega⟩, ⟨by (with_reducible repeat (first | apply Kd.N_alloc | apply Kd.N_drewN | apply Kd.N_drew));exact HO_7.out⟩, ⟨by (with_reducible repeat (first | apply Kd.N_alloc | apply Kd.N_drewN | apply Kd.N_drew));exact HO_8.out⟩, ⟨by exact rP HO_9.out⟩, ⟨by exact kP BK300.out⟩, ⟨by exact bB⟩⟩
     ·rw [if_neg c15] at H
      exact absurd H (by simp)
    ·rw [if_neg c14] at H
     exact absurd H (by simp)
   ·rw [if_neg c13] at H
    have c13b0 : decide (x10_1 < (t304.length : Int)) = false := decide_eq_false c13
    clear c13
    obtain rfl := Option.some.inj H
    obtain ⟨Ao23, co23, eo23⟩ := Kd.N_slice HO_8.out
    subst eo23
    go_wp2
    go_ret
    exact ⟨_, by first | rfl | (simp [errW_none, errW_some] <;> rfl) | (simp [*, errW_none, errW_some] <;> rfl), by (with_reducible repeat (first | apply Kd.N_alloc | apply Kd.N_drewN | apply Kd.N_drew));exact Kd.N_mono HO_7.out (fun _ hk => hk.1), by exact bB⟩


/-! ### spec_l10Number: function 64 -/
def spec_l10Number.l0 : Nat → Bool → Int → Int → List (S92) → Option (Int)
 | 0, _, _, _, _ => none
 | k + 1, x1, x5, x316000, x316001 => (spec_l10Family.f k x316000 x316001 x5 x1).bind fun t316 => (if (t316.length : Int) = 0 then (spec_l10Number.l0 k x1 (wrap64 (x5 + 1)) x316000 x316001) else (some x5))
def spec_l10Number.f (k : Nat) (a0_0 : Int) (l0_1 : List (S92)) (a1 : Bool) : Option (Int) := spec_l10Number.l0 k a1 0 a0_0 l0_1
theorem spec_l10Number.mono_l : ∀ k, (∀ y0 y1 y2 y3, LeO (spec_l10Number.l0 k y0 y1 y2 y3) (spec_l10Number.l0 (k + 1) y0 y1 y2 y3))
 | 0 => fun _ _ _ _ r h => by simp [spec_l10Number.l0] at h
 | k + 1 => by
  have ih0 := spec_l10Number.mono_l k
  ·intro y0 y1 y2 y3
   unfold spec_l10Number.l0
   repeat' first
   | (with_reducible exact ih0 _ _ _ _)
   | (with_reducible exact spec_l10Family.mono _ _ _ _ _)
   | (with_reducible exact LeO.refl _)
   | (with_reducible exact LeO.none _)
   | (with_reducible refine LeO.ite ?_ ?_)
   | (with_reducible refine LeO.bind ?_ (fun _ => ?_))
   | exact ih0 _ _ _ _
   | exact spec_l10Family.mono _ _ _ _ _
   | exact LeO.none _
   | refine LeO.ite ?_ ?_
   | refine LeO.bind ?_ (fun _ => ?_)
theorem spec_l10Number.mono : ∀ a0 a1 a2 k, LeO (spec_l10Number.f k a0 a1 a2) (spec_l10Number.f (k + 1) a0 a1 a2) := by
 intro a0 a1 a2 k
 have ih0 := spec_l10Number.mono_l k
 unfold spec_l10Number.f
 repeat' first
   | (with_reducible exact ih0 _ _ _ _)
   | (with_reducible exact spec_l10Family.mono _ _ _ _ _)
   | (with_reducible exact LeO.refl _)
   | (with_reducible exact LeO.none _)
   | (with_reducible refine LeO.ite ?_ ?_)
   | (with_reducible refine LeO.bind ?_ (fun _ => ?_))
   | exact ih0 _ _ _ _
   | exact spec_l10Family.mono _ _ _ _ _
   | exact LeO.none _
   | refine LeO.ite ?_ ?_
   | refine LeO.bind ?_ (fun _ => ?_)
set_option maxHeartbeats 8000000 in
set_option maxRecDepth 100000 in
theorem spec_l10Number.calls (k : Nat) (a0_0 : Int) (A0_1 : Option Addr) (c0_1 : Nat) (l0_1 : List (S92)) (a1 : Bool) (r : Int) (w : World) (hr0_1 : Kd.C k92 w A0_1 l0_1.length l0_1) (hc0_1 : l0_1.length ≤ c0_1) (h : spec_l10Number.f k a0_0 l0_1 a1 = some r) :
  Calls Tryd.prog 64 #[.agg #[.int .i64 a0_0, .slice A0_1 l0_1.length c0_1], .bool a1] w fun e w' => e = .returned (.int .i64 r) ∧ Below w.heap.size w w' := by
 have hu28 := Tryd.underlying28
 have HR0_1 := Aside0.mk hr0_1
 have HC0_1 := Aside0.mk hc0_1
 clear hr0_1 hc0_1
 have HB := Aside0.mk (Below.refl w.heap.size w)
 have H : (spec_l10Number.l0 k a1 0 a0_0 l0_1) = some r := h
 clear h
 have H' := Aside0.mk H
 clear H
 go_enter Tryd.func64, Tryd.ntmps64
 go_wp2_with (first | ((with_reducible refine gate_dst (N := 2) rfl ?_);refine box_event ?hg (N := 2) ?hd (cs := #[.int .i64 a0_0, .slice A0_1 l0_1.length c0_1]) (t := 28) ?hr ?_;(case hd => rfl);(case hg => rfl);(case hr => first | (go_simp;done) | (go_simp;rfl));intro gb315 hg w3 hbox hb;have n0_ := Aside0.mk (below_step (by exact bB) hb);have n1_ := Aside0.mk (hbox);have n2_ := Aside0.mk ((by rw [hg];exact (below_size (by exact bB)) : w.heap.size ≤ gb315));have n3_ := Aside0.mk ((by rw [hg];exact (below_size (by exact bB)) : w.heap.size ≤ gb315));clear HB;have HB := n0_;have BK315 := n1_;have GW315 := n2_;have GE315 := n3_;clear n0_ n1_ n2_ n3_;clear hb hbox hg))
 go_loopg [5] k (fun kq v5 w' => ∃ (x5_1 : Int), v5 = .int .i64 x5_1 ∧ Aside0 (spec_l10Number.l0 kq a1 x5_1 a0_0 l0_1 = some r) ∧ Aside0 (kq ≤ k) ∧ Aside0 (w'.heap[gb315]? = some (.cells #[.int .i64 a0_0, (.slice A0_1 l0_1.length c0_1)] 28 (0, 0))) ∧ Aside0 (Below w.heap.size w w'))
 case atStart => exact ⟨(0), (by first | rfl | (simp;done) | (simp [*];done)), H', ⟨Nat.le_refl _⟩, ⟨by exact kP BK315.out⟩, ⟨by exact bB⟩⟩
 case round =>
  clear H'
  try clear p2
  obtain ⟨x5_1, rfl, HA, HK1, BK315, HB⟩ := hrel
  cases gk with
  | zero => exact absurd HA.out (by simp [spec_l10Number.l0])
  | succ k1 =>
   have H := HA.out
   clear HA
   simp only [spec_l10Number.l0] at H
   replace H := Option.bind_eq_some_iff.mp H
   obtain ⟨t316, A40, H⟩ := H
   replace H : (if (t316.length : Int) = 0 then (spec_l10Number.l0 k1 a1 (wrap64 (x5_1 + 1)) a0_0 l0_1) else (some x5_1)) = some r := H
   have A4 := Aside0.mk A40
   clear A40
   by_cases c5 : (t316.length : Int) = 0
   ·rw [if_pos c5] at H
    have c5b0 : ((t316.length : Int) == 0) = true := beq_iff_eq.mpr c5
    have c5b1 : ((t316.length : Int) != 0) = false := bne_eq_false_iff_eq.mpr c5
    clear c5
    have H' := Aside0.mk H
    clear H
    have hcz6_0 : wr.cell? ⟨gb315, 0, none⟩ = some (.int .i64 a0_0) := (blk_cell BK315.out 0).trans rfl
    have hcz6_1 : wr.cell? ⟨gb315, 1, none⟩ = some (.slice A0_1 l0_1.length c0_1) := (blk_cell BK315.out 1).trans rfl
    have hfz6_0 := blk_frozen BK315.out 0
    have hfz6_1 := blk_frozen BK315.out 1
    go_wp2_with (first | ((with_reducible refine gate_callee (f := 106) rfl ?_);refine goesL_ (some 9) rfl rfl Tryd.func106 (by kernel_rfl) rfl #[.agg #[.int .i64 a0_0, .slice A0_1 l0_1.length c0_1], .int .i64 x5_1, .bool a1] rfl mM ?_;(with_reducible refine (spec_l10Family.calls k1 a0_0 _ _ l0_1 x5_1 a1 t316 _ ?side1 ?side2 A4.out).mono ?_);(case side1 => exact cP (Kd.C_below HR0_1.out HB.out));(case side2 => exact HC0_1.out);rintro e w7 ⟨v317, rfl, ho0, hb⟩;refine ⟨_, rfl, ?_⟩;have n0_ := Aside0.mk (Kd.N_lower (Kd.N_mono (ok' := fun k_ => k_ ≠ gb315) ho0 (fun k_ hk_ => (Kd.freshB (g := gb315) (o := .cells #[.int .i64 a0_0, .slice A0_1 l0_1.length c0_1] 28 (0, 0)) (by exact kP BK315.out) k_ hk_))) (below_size (by exact bB)));have n1_ := Aside0.mk (blk_below (g := gb315) (o := .cells #[.int .i64 a0_0, .slice A0_1 l0_1.length c0_1] 28 (0, 0)) (by exact kP BK315.out) hb);have n2_ := Aside0.mk (below_step (by exact bB) hb);clear BK315;clear HB;have HO318 := n0_;have BK315 := n1_;have HB := n2_;clear n0_ n1_ n2_;(try clear hb);(try clear hb2);(try clear hk);(try clear hi);(try clear ho0);obtain ⟨Ao8, co8, eo8⟩ := Kd.N_slice HO318.out;subst eo8))
    go_roundg k1
    case measure => have := HK1.out;omega
    case rel => exact ⟨(wrap64 (x5_1 + 1)), (by first | rfl | (simp;done) | (simp [*];done)), H', ⟨by have := HK1.out;omega⟩, ⟨by exact kP BK315.out⟩, ⟨by exact bB⟩⟩
   ·rw [if_neg c5] at H
    have c5b0 : ((t316.length : Int) == 0) = false := beq_eq_false_iff_ne.mpr c5
    have c5b1 : ((t316.length : Int) != 0) = true := bne_iff_ne.mpr c5
    have c5b2 : ¬ (t316 = []) := fun h_ => c5 (by rw [h_];rfl)
    obtain rfl := Option.some.inj H
    have hcz9_0 : wr.cell? ⟨gb315, 0, none⟩ = some (.int .i64 a0_0) := (blk_cell BK315.out 0).trans rfl
    have hcz9_1 : wr.cell? ⟨gb315, 1, none⟩ = some (.slice A0_1 l0_1.length c0_1) := (blk_cell BK315.out 1).trans rfl
    have hfz9_0 := blk_frozen BK315.out 0
    have hfz9_1 := blk_frozen BK315.out 1
    go_wp2_with (first | ((with_reducible refine gate_callee (f := 106) rfl ?_);refine goesL_ (some 9) rfl rfl Tryd.func106 (by kernel_rfl) rfl #[.agg #[.int .i64 a0_0, .slice A0_1 l0_1.length c0_1], .int .i64 x5_1, .bool a1] rfl mM ?_;(with_reducible refine (spec_l10Family.calls k1 a0_0 _ _ l0_1 x5_1 a1 t316 _ ?side1 ?side2 A4.out).mono ?_);(case side1 => exact cP (Kd.C_below HR0_1.out HB.out));(case side2 => exact HC0_1.out);rintro e w10 ⟨v317, rfl, ho0, hb⟩;refine ⟨_, rfl, ?_⟩;have n0_ := Aside0.mk (Kd.N_lower (Kd.N_mono (ok' := fun k_ => k_ ≠ gb315) ho0 (fun k_ hk_ => (Kd.freshB (g := gb315) (o := .cells #[.int .i64 a0_0, .slice A0_1 l0_1.length c0_1] 28 (0, 0)) (by exact kP BK315.out) k_ hk_))) (below_size (by exact bB)));have n1_ := Aside0.mk (blk_below (g := gb315) (o := .cells #[.int .i64 a0_0, .slice A0_1 l0_1.length c0_1] 28 (0, 0)) (by exact kP BK315.out) hb);have n2_ := Aside0.mk (below_step (by exact bB) hb);clear BK315;clear HB;have HO318 := n0_;have BK315 := n1_;have HB := n2_;clear n0_ n1_ n2_;(try clear hb);(try clear hb2);(try clear hk);(try clear hi);(try clear ho0);obtain ⟨Ao11, co11, eo11⟩ := Kd.N_slice HO318.out;subst eo11))
    go_ret
    exact ⟨by first | rfl | (simp [errW_none, errW_some] <;> rfl) | (simp [*, errW_none, errW_some] <;> rfl), by exact bB⟩


end Go.Proofs.YthbjajppdomhhaaDoor.QEternalNumber
