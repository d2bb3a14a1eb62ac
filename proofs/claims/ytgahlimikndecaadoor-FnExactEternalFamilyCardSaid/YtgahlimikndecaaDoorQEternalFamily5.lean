import Derived.Test.YtgahlimikndecaaDoorQEternalFamily0
import Derived.Test.YtgahlimikndecaaDoorQEternalFamily4
namespace Go.Proofs.YtgahlimikndecaaDoor.QEternalFamily
open Go.RowKit Go.Proofs.YtgahlimikndecaaDoorW.PrintWords Go.Proofs.YtgahlimikndecaaDoorW.PrintLast Go.Proofs.YtgahlimikndecaaDoorW.PrintMore
attribute [local go_sem] max2_int min2_int max_two min_two max_three min_three max_four min_four   -- for this text's walks alone
set_option linter.unusedVariables false
set_option linter.unusedSimpArgs false
set_option maxRecDepth 100000
set_option maxHeartbeats 8000000
/-! ### spec_l10Family: function 28 -/
def spec_l10Family.l0 : Nat → List (List Int) → List (List Int) → List Int → Int → Option ((List (List Int)))
 | 0, _, _, _, _ => none
 | k + 1, x7, x8, x9, x10 => if x10 < (x8.length : Int) then (if 0 ≤ x10 then (if x10 < (x9.length : Int) then (if (rd x9 x10) < 0 then (if x7.length < 5864062014805 then (spec_l10Family.l0 k (x7 ++ [rd_L2 x8 x10]) x8 x9 (wrap64 (x10 + 1))) else (none)) else (spec_l10Family.l0 k x7 x8 x9 (wrap64 (x10 + 1)))) else (none)) else (none)) else (some x7)
def spec_l10Family.f (k : Nat) (a0_0 : Int) (l0_1 : List (S78)) (a1 : Int) (a2 : Bool) : Option ((List (List Int))) := (spec_l10Sets.f k a0_0 l0_1 a1).bind fun t284 => ((spec_l10Known.f k a0_0 l0_1 a1 a2).bind fun t287 => (spec_l10Family.l0 k (([] : List (List Int))) t284 t287 0))
theorem spec_l10Family.mono_l : ∀ k, (∀ y0 y1 y2 y3, LeO (spec_l10Family.l0 k y0 y1 y2 y3) (spec_l10Family.l0 (k + 1) y0 y1 y2 y3))
 | 0 => fun _ _ _ _ r h => by simp [spec_l10Family.l0] at h
 | k + 1 => by
  have ih0 := spec_l10Family.mono_l k
  ·intro y0 y1 y2 y3
   unfold spec_l10Family.l0
   have q0 := spec_l10Known.mono
   have q1 := spec_l10Sets.mono
   exact lM
theorem spec_l10Family.mono : ∀ a0 a1 a2 a3 k, LeO (spec_l10Family.f k a0 a1 a2 a3) (spec_l10Family.f (k + 1) a0 a1 a2 a3) := by
 intro a0 a1 a2 a3 k
 have ih0 := spec_l10Family.mono_l k
 unfold spec_l10Family.f
 have q0 := spec_l10Known.mono
 have q1 := spec_l10Sets.mono
 exact lM
def spec_l10Family.T1 : Bool × List (List Nat × List Nat) := (true, [([], []), ([], []), ([], []), ([1, 2], [1, 2]), ([], []), ([], []), ([], []), ([4, 5, 6, 3], [4, 5, 6]), ([0, 7, 0], [0]), ([3, 8, 0, 1, 2, 3, 8], [3]), ([7, 9, 0, 1, 2, 3, 4, 5, 6, 7, 8, 9], [7])])
def spec_l10Family.B1 : List Nat := [0, 0, 0, 6, 0, 0, 0, 126, 255, 511, 1023]
theorem spec_l10Family.tab1 : rtab .any (opsOf Tryd.f28 1) = spec_l10Family.T1 := by kernel_rfl
theorem spec_l10Family.bits1 : waitsOk spec_l10Family.T1.2 spec_l10Family.B1 = true := by kernel_rfl
theorem spec_l10Family.calls (k : Nat) (a0_0 : Int) (A0_1 : Option Addr) (c0_1 : Nat) (l0_1 : List (S78)) (a1 : Int) (a2 : Bool) (r : List (List Int)) (w : World) (hr0_1 : Kd.C k78 w A0_1 l0_1.length l0_1) (hc0_1 : l0_1.length ≤ c0_1) (h : spec_l10Family.f k a0_0 l0_1 a1 a2 = some r) :
  Calls Tryd.prog 28 #[.agg #[.int .i64 a0_0, .slice A0_1 l0_1.length c0_1], .int .i64 a1, .bool a2] w fun e w' => ∃ v0_ : Value, e = .returned (v0_) ∧ Kd.N (Kd.slice 3 (Kd.int .i64)) 36 w' w.heap.size (fun k_ => (w.heap.size ≤ k_)) v0_ r ∧ Below w.heap.size w w' := by
 have hu29 := Tryd.underlying29
 have HR0_1 := Aside0.mk hr0_1
 have HC0_1 := Aside0.mk hc0_1
 clear hr0_1 hc0_1
 have HB := aM (Below.refl w.heap.size w)
 have H : ((spec_l10Sets.f k a0_0 l0_1 a1).bind fun t284 => ((spec_l10Known.f k a0_0 l0_1 a1 a2).bind fun t287 => (spec_l10Family.l0 k (([] : List (List Int))) t284 t287 0))) = some r := h
 clear h
 obtain ⟨y281, hy281⟩ : ∃ y_ : List (List Int), y_ = (([] : List (List Int))) := ⟨_, rfl⟩
 replace H : ((spec_l10Sets.f k a0_0 l0_1 a1).bind fun t284 => ((spec_l10Known.f k a0_0 l0_1 a1 a2).bind fun t287 => (spec_l10Family.l0 k y281 t284 t287 0))) = some r := by first | (rw [hy281];with_reducible exact H) | (have H2_ := (Option.bind_some _ _).symm.trans H;rw [hy281];with_reducible exact H2_) | (have H2_ := (Option.bind_some _ _).symm.trans H;with_reducible exact H2_) | with_reducible exact H | (rw [hy281];exact H) | exact H
 have Ny281 := Aside0.mk hy281
 clear hy281
 replace H := Option.bind_eq_some_iff.mp H
 obtain ⟨t284, A40, H⟩ := H
 try dsimp only at H
 have A4 := Aside0.mk A40
 clear A40
 replace H := Option.bind_eq_some_iff.mp H
 obtain ⟨t287, A50, H⟩ := H
 try dsimp only at H
 have A5 := Aside0.mk A50
 clear A50
 have H' := Aside0.mk H
 clear H
 go_enter Tryd.func28, Tryd.ntmps28
 try go_wp2_with (first | ((with_reducible refine gate_dst (N := 3) rfl ?_);refine box_event ?hg (N := 3) ?hd (cs := #[.int .i64 a0_0, .slice A0_1 l0_1.length c0_1]) (t := 29) ?hr ?_;(case hd => rfl);(case hg => rfl);(case hr => exact gS);intro gb280 hg w6 hbox hb;have n0_ := aM (below_step (by exact bB) hb);have n1_ := aM (hbox);have n2_ := aM (sW hg : w.heap.size ≤ gb280);have n3_ := aM (sW hg : w.heap.size ≤ gb280);clear HB;have HB := n0_;have BK280 := n1_;have GW280 := n2_;have GE280 := n3_;clear n0_ n1_ n2_ n3_;clear hb hbox hg))
 have n0_ := aM (blk_drew BK280.out)
 have n1_ := aM (below_drew1 HB.out)
 clear BK280
 clear HB
 have BK280 := n0_
 have HB := n1_
 clear n0_ n1_
 refine start_ (n := 11) (S := fun w' => True) (ds := []) (pT 0 11) (by kernel_rfl) rfl rfl trivial (fun hHeld => ?_);refine with_tabW spec_l10Family.tab1 spec_l10Family.bits1 (fun HT_ HW_ => ?_)
 generalize w6.drew = w7 at BK280 HB hHeld ⊢
 refine pure_ (i := 2) (N := some 13) (v := ?_) (a' := ?_) #[false,false,true,false,false,false,false,false,false,false,false] rfl rfl (any_of HT_.out (by kernel_rfl)) (fun _ _ _ h => h) (Or.inl ⟨by rfl, ?_⟩) ?_ ?_
 rotate_left
 ·intro w'
  go_simp
  with_reducible rfl
 rotate_left
 ·exact aP
 refine pure_ (i := 5) (N := some 16) (v := ?_) (a' := ?_) #[false,false,true,false,false,true,false,false,false,false,false] rfl rfl (any_of HT_.out (by kernel_rfl)) (fun _ _ _ h => h) (Or.inl ⟨by rfl, ?_⟩) ?_ ?_
 rotate_left
 ·intro w'
  go_simp
  with_reducible rfl
 rotate_left
 ·exact aP
 refine pure_ (i := 6) (N := some 17) (v := ?_) (a' := ?_) #[false,false,true,false,false,true,true,false,false,false,false] rfl rfl (any_of HT_.out (by kernel_rfl)) (fun _ _ _ h => h) (Or.inl ⟨by rfl, ?_⟩) ?_ ?_
 rotate_left
 ·intro w'
  go_simp
  with_reducible rfl
 rotate_left
 ·exact aP
 refine inv_at [0, 1, 3, 4, 7, 8, 9, 10] (fun a0_ b a w' => ∃ (v282 : Value) (v285 : Value) (v288 : Value) (m8_ : Value) (m9_ : Value) (m10_ : Value), a = putSel a0_ b [(0, 11, v282), (1, 12, .agg #[.int .i64 a0_0, .slice A0_1 l0_1.length c0_1]), (3, 14, v285), (4, 15, .agg #[.int .i64 a0_0, .slice A0_1 l0_1.length c0_1]), (7, 18, v288), (8, 7, m8_), (9, 8, m9_), (10, 9, m10_)] ∧ (w'.heap[gb280]? = some (.cells #[.int .i64 a0_0, .slice A0_1 l0_1.length c0_1] 29 (0, 0))) ∧ (Below w.heap.size w w') ∧ (b 0 = true → Kd.N (Kd.slice 3 (Kd.int .i64)) 36 w' w.heap.size (fun k_ => (w.heap.size ≤ k_) ∧ k_ ≠ gb280 ∧ (b 3 = true → some k_ ≠ v285.ownBlock) ∧ (b 7 = true → some k_ ≠ v288.ownBlock)) v282 y281) ∧ (b 3 = true → Kd.N (Kd.slice 3 (Kd.int .i64)) 36 w' w.heap.size (fun k_ => (w.heap.size ≤ k_) ∧ k_ ≠ gb280 ∧ (b 0 = true → some k_ ≠ v282.ownBlock) ∧ (b 7 = true → some k_ ≠ v288.ownBlock)) v285 t284) ∧ (b 7 = true → Kd.R (Kd.int .i64) 3 w' w.heap.size (fun k_ => (w.heap.size ≤ k_)) v288 t287) ∧ (b 8 = true → (m8_ : Value) = v282) ∧ (b 9 = true → (m9_ : Value) = v285) ∧ (b 10 = true → (m10_ : Value) = v288)) HT_.out HW_.out (by kernel_rfl) (by kernel_rfl) ?_ ?_ ?_
 ·exact ⟨.bool false, .bool false, .bool false, .bool false, .bool false, .bool false, by simp only [putSel, Bool.false_eq_true, if_false], BK280.out, HB.out, fun h_ => absurd h_ (by decide), fun h_ => absurd h_ (by decide), fun h_ => absurd h_ (by decide), fun h_ => absurd h_ (by decide), fun h_ => absurd h_ (by decide), fun h_ => absurd h_ (by decide)⟩
 ·skip
  clear BK280 HB
  refine steps_cons ?_ ?_
  ·rintro b a w' ⟨v282, v285, v288, m8_, m9_, m10_, ha, Q_BK280, Q_HB, Q_HO283, Q_HO286, Q_HO289, Q_X8_, Q_X9_, Q_X10_⟩ hb_ hon hoff
   refine ⟨_, rfl, fun K hK => ?_⟩
   replace ha := Aside0.mk ha
   have BK280 := Aside0.mk Q_BK280
   have HB := Aside0.mk Q_HB
   refine Kd.N_lit_step (Kd.slice 3 (Kd.int .i64)) _ 36 ?hg (N' := 11) ?hd (xs := ([] : List (List Int))) (inner := []) (ok := (fun k_ => (w.heap.size ≤ k_) ∧ k_ ≠ gb280 ∧ (b 3 = true → some k_ ≠ v285.ownBlock) ∧ (b 7 = true → some k_ ≠ v288.ownBlock))) (okp := (fun k_ => (w.heap.size ≤ k_) ∧ k_ ≠ gb280 ∧ (b 3 = true → some k_ ≠ v285.ownBlock) ∧ (b 7 = true → some k_ ≠ v288.ownBlock))) ?hr ?hp (fun _ hk => hk) ((show ∀ k_, w'.heap.size ≤ k_ → (fun k_ => (w.heap.size ≤ k_) ∧ k_ ≠ gb280 ∧ (b 3 = true → some k_ ≠ v285.ownBlock) ∧ (b 7 = true → some k_ ≠ v288.ownBlock)) k_ from fun k_ hk => ⟨(Nat.le_trans (below_size (by exact bB)) hk), Kd.freshB (g := gb280) (o := .cells #[.int .i64 a0_0, .slice A0_1 l0_1.length c0_1] 29 (0, 0)) (by exact kP BK280.out) k_ hk, fun h0_ => Kd.fresh' (Kd.N_lt (Q_HO286 h0_)) k_ hk, fun h0_ => Kd.fresh' (Kd.R_lt (Q_HO289 h0_)) k_ hk⟩) _ (Nat.le_refl _)) (Below.refl _ _) (Nat.le_refl _) (by simp) ?_;(case hd => rfl);(case hg => rfl);(case hr => exact gS);(case hp => exact (Reps.none _ _))
   intro v282 w8 ho9 hb hg_ hnew_
   clear hg_ hnew_
   (first | rw [← Ny281.out] at ho9 | (simp only [Int.reduceToNat] at ho9;rw [← Ny281.out] at ho9))
   have n0_ := aM (Kd.N_lower ho9 (below_size (by exact bB)))
   have n1_ := aM (kB hb BK280.out)
   have n2_ := aM (below_step (by exact bB) hb)
   have z_HO286 := fun (h0_ : b 3 = true) => (Kd.N_elder' (by (with_reducible repeat (first | apply Kd.N_alloc | apply Kd.N_drewN | apply Kd.N_drew));exact (Q_HO286 h0_)) (Kd.N_base ho9) hb)
   have z_HO289 := fun (h0_ : b 7 = true) => (show Kd.R (Kd.int .i64) 3 w8 w.heap.size (fun k_ => (w.heap.size ≤ k_)) v288 t287 from by first | exact (Kd.R_below (by refine rP ?_;exact (Q_HO289 h0_)) hb) | exact Kd.R_mono (Kd.R_below (by refine rP ?_;exact (Q_HO289 h0_)) hb) (fun _ h_ => by first | trivial | exact h_ | exact h_.1))
   clear BK280
   clear HB
   have HO283 := n0_
   have BK280 := n1_
   have HB := n2_
   clear n0_ n1_ n2_
   clear hb ho9
   refine hK.out _ _ ⟨v282, v285, v288, m8_, m9_, m10_, (by rw [ha.out];exact putSel_upk 0 hb_ rfl rfl rfl), (by exact kP BK280.out), (by exact bB), fun _ => (by exact uP HO283.out), fun h0_ => Kd.N_mono (z_HO286 h0_) (fun _ h_ => ⟨h_.1.1, h_.1.2.1, fun _ => h_.2, h_.1.2.2.2⟩), z_HO289, fun h0_ => absurd ((hoff 8 (by kernel_rfl)).symm.trans h0_) (by decide), fun h0_ => absurd ((hoff 9 (by kernel_rfl)).symm.trans h0_) (by decide), fun h0_ => absurd ((hoff 10 (by kernel_rfl)).symm.trans h0_) (by decide)⟩
  refine steps_cons ?_ ?_
  ·rintro b a w' ⟨v282, v285, v288, m8_, m9_, m10_, ha, Q_BK280, Q_HB, Q_HO283, Q_HO286, Q_HO289, Q_X8_, Q_X9_, Q_X10_⟩ hb_ hon hoff
   refine ⟨_, rfl, fun K hK => ?_⟩
   have e3 : a.tmps[3]? = some (.pointer (some ⟨gb280, 0, none⟩)) := by rw [ha];exact (putSel_off rfl).trans rfl
   replace ha := Aside0.mk ha
   have BK280 := Aside0.mk Q_BK280
   have HB := Aside0.mk Q_HB
   have hc0_ : w'.cell? ⟨gb280, 0, none⟩ = some (.int .i64 a0_0) := (blk_cell BK280.out 0).trans rfl
   have hc1_ : w'.cell? ⟨gb280, 1, none⟩ = some (.slice A0_1 l0_1.length c0_1) := (blk_cell BK280.out 1).trans rfl
   refine value_ (w1 := w') (v := .agg #[.int .i64 a0_0, .slice A0_1 l0_1.length c0_1]) (by rfl) rfl ?_ ?_
   ·go_simp
    (try simp only [i64_w])
    try rfl
   refine hK.out _ _ ⟨v282, v285, v288, m8_, m9_, m10_, (by rw [ha.out];exact putSel_upk 1 hb_ rfl rfl rfl), Q_BK280, Q_HB, Q_HO283, fun h0_ => absurd ((hoff 3 (by kernel_rfl)).symm.trans h0_) (by decide), fun h0_ => absurd ((hoff 7 (by kernel_rfl)).symm.trans h0_) (by decide), fun h0_ => absurd ((hoff 8 (by kernel_rfl)).symm.trans h0_) (by decide), fun h0_ => absurd ((hoff 9 (by kernel_rfl)).symm.trans h0_) (by decide), fun h0_ => absurd ((hoff 10 (by kernel_rfl)).symm.trans h0_) (by decide)⟩
  refine steps_cons ?_ ?_
  ·rintro b a w' ⟨v282, v285, v288, m8_, m9_, m10_, ha, Q_BK280, Q_HB, Q_HO283, Q_HO286, Q_HO289, Q_X8_, Q_X9_, Q_X10_⟩ hb_ hon hoff
   refine ⟨_, rfl, fun K hK => ?_⟩
   have e12 : a.tmps[12]? = some (.agg #[.int .i64 a0_0, .slice A0_1 l0_1.length c0_1]) := by rw [ha];exact putSel_on (e := (1, 12, .agg #[.int .i64 a0_0, .slice A0_1 l0_1.length c0_1])) 1 rfl rfl (hon 1 (by kernel_rfl)) rfl
   have e13 : a.tmps[13]? = some (.int .i64 a1) := by rw [ha];exact (putSel_off rfl).trans rfl
   replace ha := Aside0.mk ha
   have BK280 := Aside0.mk Q_BK280
   have HB := Aside0.mk Q_HB
   refine goes_ Tryd.func39 (by kernel_rfl) rfl #[.agg #[.int .i64 a0_0, .slice A0_1 l0_1.length c0_1], .int .i64 a1] (by rfl) rfl rfl (by first | (simp only [List.map_toArray, List.map_cons, List.map_nil, Act.eval, Array.getD_eq_getD_getElem?, Option.getD_some, e12, e13];done) | (simp only [List.map_toArray, List.map_cons, List.map_nil, Act.eval, Array.getD_eq_getD_getElem?, Option.getD_some, e12, e13];rfl)) ?_
   with_reducible refine (spec_l10Sets.calls k a0_0 _ _ l0_1 a1 t284 _ ?side1 ?side2 A4.out).mono ?_
   (case side1 => exact cP (Kd.C_below HR0_1.out HB.out))
   (case side2 => exact HC0_1.out)
   rintro e w8 ⟨v285, rfl, ho0, hb⟩
   refine ⟨_, rfl, ?_⟩
   have n0_ := aM (Kd.N_lower (Kd.N_mono (ok' := fun k_ => (w.heap.size ≤ k_) ∧ k_ ≠ gb280 ∧ (b 0 = true → some k_ ≠ v282.ownBlock) ∧ (b 7 = true → some k_ ≠ v288.ownBlock)) ho0 (fun k_ hk_ => ⟨(Nat.le_trans (below_size (by exact bB)) hk_), (Kd.freshB (g := gb280) (o := .cells #[.int .i64 a0_0, .slice A0_1 l0_1.length c0_1] 29 (0, 0)) (by exact kP BK280.out) k_ hk_), fun h0_ => Kd.fresh' (Kd.N_lt (Q_HO283 h0_)) k_ hk_, fun h0_ => absurd ((hoff 7 (by kernel_rfl)).symm.trans h0_) (by decide)⟩)) (below_size (by exact bB)))
   have n1_ := aM (kB hb BK280.out)
   have n2_ := aM (below_step (by exact bB) hb)
   have z_HO283 := fun (h0_ : b 0 = true) => (Kd.N_elder' (by (with_reducible repeat (first | apply Kd.N_alloc | apply Kd.N_drewN | apply Kd.N_drew));exact (Q_HO283 h0_)) (Kd.N_base ho0) hb)
   clear BK280
   clear HB
   have HO286 := n0_
   have BK280 := n1_
   have HB := n2_
   clear n0_ n1_ n2_
   (try clear hb)
   (try clear hb2)
   (try clear hk)
   (try clear hi)
   (try clear ho0)
   refine hK.out _ _ ⟨v282, v285, v288, m8_, m9_, m10_, (by rw [ha.out];exact putSel_upk 2 hb_ rfl rfl rfl), (by exact kP BK280.out), (by exact bB), fun h0_ => Kd.N_mono (z_HO283 h0_) (fun _ h_ => ⟨h_.1.1, h_.1.2.1, fun _ => h_.2, h_.1.2.2.2⟩), fun _ => (by exact uP HO286.out), fun h0_ => absurd ((hoff 7 (by kernel_rfl)).symm.trans h0_) (by decide), fun h0_ => absurd ((hoff 8 (by kernel_rfl)).symm.trans h0_) (by decide), fun h0_ => absurd ((hoff 9 (by kernel_rfl)).symm.trans h0_) (by decide), fun h0_ => absurd ((hoff 10 (by kernel_rfl)).symm.trans h0_) (by decide)⟩
  refine steps_cons ?_ ?_
  ·rintro b a w' ⟨v282, v285, v288, m8_, m9_, m10_, ha, Q_BK280, Q_HB, Q_HO283, Q_HO286, Q_HO289, Q_X8_, Q_X9_, Q_X10_⟩ hb_ hon hoff
   refine ⟨_, rfl, fun K hK => ?_⟩
   have e3 : a.tmps[3]? = some (.pointer (some ⟨gb280, 0, none⟩)) := by rw [ha];exact (putSel_off rfl).trans rfl
   replace ha := Aside0.mk ha
   have BK280 := Aside0.mk Q_BK280
   have HB := Aside0.mk Q_HB
   have hc0_ : w'.cell? ⟨gb280, 0, none⟩ = some (.int .i64 a0_0) := (blk_cell BK280.out 0).trans rfl
   have hc1_ : w'.cell? ⟨gb280, 1, none⟩ = some (.slice A0_1 l0_1.length c0_1) := (blk_cell BK280.out 1).trans rfl
   refine value_ (w1 := w') (v := .agg #[.int .i64 a0_0, .slice A0_1 l0_1.length c0_1]) (by rfl) rfl ?_ ?_
   ·go_simp
    (try simp only [i64_w])
    try rfl
   refine hK.out _ _ ⟨v282, v285, v288, m8_, m9_, m10_, (by rw [ha.out];exact putSel_upk 3 hb_ rfl rfl rfl), Q_BK280, Q_HB, Q_HO283, Q_HO286, fun h0_ => absurd ((hoff 7 (by kernel_rfl)).symm.trans h0_) (by decide), fun h0_ => absurd ((hoff 8 (by kernel_rfl)).symm.trans h0_) (by decide), fun h0_ => absurd ((hoff 9 (by kernel_rfl)).symm.trans h0_) (by decide), fun h0_ => absurd ((hoff 10 (by kernel_rfl)).symm.trans h0_) (by decide)⟩
  refine steps_cons ?_ ?_
  ·rintro b a w' ⟨v282, v285, v288, m8_, m9_, m10_, ha, Q_BK280, Q_HB, Q_HO283, Q_HO286, Q_HO289, Q_X8_, Q_X9_, Q_X10_⟩ hb_ hon hoff
   refine ⟨_, rfl, fun K hK => ?_⟩
   have e15 : a.tmps[15]? = some (.agg #[.int .i64 a0_0, .slice A0_1 l0_1.length c0_1]) := by rw [ha];exact putSel_on (e := (4, 15, .agg #[.int .i64 a0_0, .slice A0_1 l0_1.length c0_1])) 3 rfl rfl (hon 4 (by kernel_rfl)) rfl
   have e16 : a.tmps[16]? = some (.int .i64 a1) := by rw [ha];exact (putSel_off rfl).trans rfl
   have e17 : a.tmps[17]? = some (.bool a2) := by rw [ha];exact (putSel_off rfl).trans rfl
   replace ha := Aside0.mk ha
   have BK280 := Aside0.mk Q_BK280
   have HB := Aside0.mk Q_HB
   have HO286 := aM (Q_HO286 (hon 3 (by kernel_rfl)))
   refine goes_ Tryd.func57 (by kernel_rfl) rfl #[.agg #[.int .i64 a0_0, .slice A0_1 l0_1.length c0_1], .int .i64 a1, .bool a2] (by rfl) rfl rfl (by first | (simp only [List.map_toArray, List.map_cons, List.map_nil, Act.eval, Array.getD_eq_getD_getElem?, Option.getD_some, e15, e16, e17];done) | (simp only [List.map_toArray, List.map_cons, List.map_nil, Act.eval, Array.getD_eq_getD_getElem?, Option.getD_some, e15, e16, e17];rfl)) ?_
   with_reducible refine (spec_l10Known.calls k a0_0 _ _ l0_1 a1 a2 t287 _ ?side1 ?side2 A5.out).mono ?_
   (case side1 => exact cP (Kd.C_below HR0_1.out HB.out))
   (case side2 => exact HC0_1.out)
   rintro e w10 ⟨v288, rfl, ho0, hb⟩
   refine ⟨_, rfl, ?_⟩
   have n0_ := aM (Kd.N_elder' (by exact uP HO286.out) (Kd.R_base ho0) hb)
   have n1_ := aM (Kd.R_lower (Kd.R_newM (M := fun k_ => (w.heap.size ≤ k_)) ho0 (below_size (by exact bB)) (fun k_ h_ => h_)) (below_size (by exact bB)))
   have n2_ := aM (kB hb BK280.out)
   have n3_ := aM (below_step (by exact bB) hb)
   have z_HO283 := fun (h0_ : b 0 = true) => (Kd.N_elder' (by (with_reducible repeat (first | apply Kd.N_alloc | apply Kd.N_drewN | apply Kd.N_drew));exact (Q_HO283 h0_)) (Kd.R_base ho0) hb)
   clear HO286
   clear BK280
   clear HB
   have HO286 := n0_
   have HO289 := n1_
   have BK280 := n2_
   have HB := n3_
   clear n0_ n1_ n2_ n3_
   (try clear hb)
   (try clear hb2)
   (try clear hk)
   (try clear hi)
   (try clear ho0)
   refine hK.out _ _ ⟨v282, v285, v288, m8_, m9_, m10_, (by rw [ha.out];exact putSel_upk 4 hb_ rfl rfl rfl), (by exact kP BK280.out), (by exact bB), fun h0_ => Kd.N_mono (z_HO283 h0_) (fun _ h_ => ⟨h_.1.1, h_.1.2.1, h_.1.2.2.1, fun _ => h_.2⟩), fun _ => (by (with_reducible repeat (first | apply Kd.N_alloc | apply Kd.N_drewN | apply Kd.N_drew));exact Kd.N_mono HO286.out (fun _ hk => ⟨hk.1.1, hk.1.2.1, hk.1.2.2.1, fun _ => hk.2⟩)), fun _ => (by refine rP ?_;exact Kd.R_mono HO289.out (fun _ hk => hk.1)), fun h0_ => absurd ((hoff 8 (by kernel_rfl)).symm.trans h0_) (by decide), fun h0_ => absurd ((hoff 9 (by kernel_rfl)).symm.trans h0_) (by decide), fun h0_ => absurd ((hoff 10 (by kernel_rfl)).symm.trans h0_) (by decide)⟩
  refine steps_cons ?_ ?_
  ·rintro b a w' ⟨v282, v285, v288, m8_, m9_, m10_, ha, Q_BK280, Q_HB, Q_HO283, Q_HO286, Q_HO289, Q_X8_, Q_X9_, Q_X10_⟩ hb_ hon hoff
   refine ⟨_, rfl, fun K hK => ?_⟩
   have e11 : a.tmps[11]? = some (v282) := by rw [ha];exact putSel_on (e := (0, 11, v282)) 0 rfl rfl (hon 0 (by kernel_rfl)) rfl
   replace ha := Aside0.mk ha
   have BK280 := Aside0.mk Q_BK280
   have HB := Aside0.mk Q_HB
   have HO283 := aM (Q_HO283 (hon 0 (by kernel_rfl)))
   have HO286 := aM (Q_HO286 (hon 3 (by kernel_rfl)))
   have HO289 := aM (Q_HO289 (hon 7 (by kernel_rfl)))
   refine value_ (w1 := w') (v := v282) (by rfl) rfl ?_ ?_
   ·go_simp
    (try simp only [i64_w])
    try rfl
   refine hK.out _ _ ⟨v282, v285, v288, (v282), m9_, m10_, (by rw [ha.out];exact putSel_upk 5 hb_ rfl rfl rfl), Q_BK280, Q_HB, Q_HO283, Q_HO286, Q_HO289, fun _ => rfl, fun h0_ => absurd ((hoff 9 (by kernel_rfl)).symm.trans h0_) (by decide), fun h0_ => absurd ((hoff 10 (by kernel_rfl)).symm.trans h0_) (by decide)⟩
  refine steps_cons ?_ ?_
  ·rintro b a w' ⟨v282, v285, v288, m8_, m9_, m10_, ha, Q_BK280, Q_HB, Q_HO283, Q_HO286, Q_HO289, Q_X8_, Q_X9_, Q_X10_⟩ hb_ hon hoff
   refine ⟨_, rfl, fun K hK => ?_⟩
   have e14 : a.tmps[14]? = some (v285) := by rw [ha];exact putSel_on (e := (3, 14, v285)) 2 rfl rfl (hon 3 (by kernel_rfl)) rfl
   replace ha := Aside0.mk ha
   have BK280 := Aside0.mk Q_BK280
   have HB := Aside0.mk Q_HB
   have HO283 := aM (Q_HO283 (hon 0 (by kernel_rfl)))
   have HO286 := aM (Q_HO286 (hon 3 (by kernel_rfl)))
   have HO289 := aM (Q_HO289 (hon 7 (by kernel_rfl)))
   refine value_ (w1 := w') (v := v285) (by rfl) rfl ?_ ?_
   ·go_simp
    (try simp only [i64_w])
    try rfl
   refine hK.out _ _ ⟨v282, v285, v288, m8_, (v285), m10_, (by rw [ha.out];exact putSel_upk 6 hb_ rfl rfl rfl), Q_BK280, Q_HB, Q_HO283, Q_HO286, Q_HO289, Q_X8_, fun _ => rfl, fun h0_ => absurd ((hoff 10 (by kernel_rfl)).symm.trans h0_) (by decide)⟩
  refine steps_cons ?_ ?_
  ·rintro b a w' ⟨v282, v285, v288, m8_, m9_, m10_, ha, Q_BK280, Q_HB, Q_HO283, Q_HO286, Q_HO289, Q_X8_, Q_X9_, Q_X10_⟩ hb_ hon hoff
   refine ⟨_, rfl, fun K hK => ?_⟩
   have e18 : a.tmps[18]? = some (v288) := by rw [ha];exact putSel_on (e := (7, 18, v288)) 4 rfl rfl (hon 7 (by kernel_rfl)) rfl
   replace ha := Aside0.mk ha
   have BK280 := Aside0.mk Q_BK280
   have HB := Aside0.mk Q_HB
   have HO283 := aM (Q_HO283 (hon 0 (by kernel_rfl)))
   have HO286 := aM (Q_HO286 (hon 3 (by kernel_rfl)))
   have HO289 := aM (Q_HO289 (hon 7 (by kernel_rfl)))
   refine value_ (w1 := w') (v := v288) (by rfl) rfl ?_ ?_
   ·go_simp
    (try simp only [i64_w])
    try rfl
   refine hK.out _ _ ⟨v282, v285, v288, m8_, m9_, (v288), (by rw [ha.out];exact putSel_upk 7 hb_ rfl rfl rfl), Q_BK280, Q_HB, Q_HO283, Q_HO286, Q_HO289, Q_X8_, Q_X9_, fun _ => rfl⟩
  exact steps_nil
 rintro b a w12 hall ⟨v282, v285, v288, m8_, m9_, m10_, ha, Q_BK280, Q_HB, Q_HO283, Q_HO286, Q_HO289, Q_X8_, Q_X9_, Q_X10_⟩
 clear BK280 HB
 have hb0_ := hall 0 (by kernel_rfl)
 have hb1_ := hall 1 (by kernel_rfl)
 have hb3_ := hall 3 (by kernel_rfl)
 have hb4_ := hall 4 (by kernel_rfl)
 have hb7_ := hall 7 (by kernel_rfl)
 have hb8_ := hall 8 (by kernel_rfl)
 have hb9_ := hall 9 (by kernel_rfl)
 have hb10_ := hall 10 (by kernel_rfl)
 subst ha
 obtain rfl := (Q_X8_ hb8_).symm
 obtain rfl := (Q_X9_ hb9_).symm
 obtain rfl := (Q_X10_ hb10_).symm
 simp only [putSel, hb0_, hb1_, hb3_, hb4_, hb7_, hb8_, hb9_, hb10_, if_true, Act.put, List.setIfInBounds_toArray, List.set_cons_zero, List.set_cons_succ]
 have BK280 := Aside0.mk Q_BK280
 clear Q_BK280
 have HB := Aside0.mk Q_HB
 clear Q_HB
 have HO283 : Aside0 (Kd.N (Kd.slice 3 (Kd.int .i64)) 36 w12 w.heap.size (fun k_ => (w.heap.size ≤ k_) ∧ some k_ ≠ (v285 : Value).ownBlock ∧ some k_ ≠ (v288 : Value).ownBlock ∧ k_ ≠ gb280) v282 y281) := ⟨Kd.N_mono (Q_HO283 hb0_) (fun _ h_ => ⟨h_.1, h_.2.2.1 hb3_, h_.2.2.2 hb7_, h_.2.1⟩)⟩
 clear Q_HO283
 have HO286 : Aside0 (Kd.N (Kd.slice 3 (Kd.int .i64)) 36 w12 w.heap.size (fun k_ => (w.heap.size ≤ k_) ∧ some k_ ≠ (v282 : Value).ownBlock ∧ some k_ ≠ (v288 : Value).ownBlock ∧ k_ ≠ gb280) v285 t284) := ⟨Kd.N_mono (Q_HO286 hb3_) (fun _ h_ => ⟨h_.1, h_.2.2.1 hb0_, h_.2.2.2 hb7_, h_.2.1⟩)⟩
 clear Q_HO286
 have HO289 := aM (Q_HO289 hb7_)
 clear Q_HO289
 clear hall hb0_ hb1_ hb3_ hb4_ hb7_ hb8_ hb9_ hb10_
 try go_wp2
 go_loopg [7, 10] k (fun kq v7 v10 w' => ∃ (x7_1 : List (List Int)) (x10_1 : Int), v10 = .int .i64 x10_1 ∧ Aside0 (spec_l10Family.l0 kq x7_1 t284 t287 x10_1 = some r) ∧ Aside0 (kq ≤ k) ∧ Aside0 (Kd.N (Kd.slice 3 (Kd.int .i64)) 36 w' w.heap.size (fun k_ => (w.heap.size ≤ k_) ∧ some k_ ≠ (v285 : Value).ownBlock ∧ some k_ ≠ (v288 : Value).ownBlock ∧ k_ ≠ gb280) v7 x7_1) ∧ Aside0 (Kd.N (Kd.slice 3 (Kd.int .i64)) 36 w' w.heap.size (fun k_ => (w.heap.size ≤ k_) ∧ some k_ ≠ (v7 : Value).ownBlock ∧ some k_ ≠ (v288 : Value).ownBlock ∧ k_ ≠ gb280) v285 t284) ∧ Aside0 (Kd.R (Kd.int .i64) 3 w' w.heap.size (fun k_ => (w.heap.size ≤ k_)) v288 t287) ∧ Aside0 (w'.heap[gb280]? = some (.cells #[.int .i64 a0_0, (.slice A0_1 l0_1.length c0_1)] 29 (0, 0))) ∧ Aside0 (Below w.heap.size w w'))
 case atStart => exact ⟨(y281), (0), eF, H', ⟨Nat.le_refl _⟩, ⟨by (with_reducible repeat (first | apply Kd.N_alloc | apply Kd.N_drewN | apply Kd.N_drew));exact HO283.out⟩, ⟨by (with_reducible repeat (first | apply Kd.N_alloc | apply Kd.N_drewN | apply Kd.N_drew));exact HO286.out⟩, ⟨by exact rP HO289.out⟩, ⟨by exact kP BK280.out⟩, ⟨by exact bB⟩⟩
 case round =>
  clear H'
  try clear c1
  try clear c2
  try clear p2
  try clear c3
  try clear c5
  obtain ⟨x7_1, x10_1, rfl, HA, HK1, HO_7, HO_8, HO_9, BK280, HB⟩ := hrel
  cases gk with
  | zero => exact absurd HA.out (by simp [spec_l10Family.l0])
  | succ k1 =>
   have H := HA.out
   clear HA
   simp only [spec_l10Family.l0] at H
   by_cases c13 : x10_1 < (t284.length : Int)
   rotate_left
   ·rw [if_neg c13] at H
    have c13b0 : decide (x10_1 < (t284.length : Int)) = false := decide_eq_false c13
    clear c13
    obtain rfl := Option.some.inj H
    obtain ⟨Ao23, co23, eo23⟩ := Kd.N_slice HO_8.out
    subst eo23
    go_wp2
    go_ret
    exact ⟨_, eW, by (with_reducible repeat (first | apply Kd.N_alloc | apply Kd.N_drewN | apply Kd.N_drew));exact Kd.N_mono HO_7.out (fun _ hk => hk.1), by exact bB⟩
   rw [if_pos c13] at H
   have c13b0 : decide (x10_1 < (t284.length : Int)) = true := decide_eq_true c13
   clear c13
   by_cases c14 : 0 ≤ x10_1
   rotate_left
   ·rw [if_neg c14] at H
    exact absurd H (by simp)
   rw [if_pos c14] at H
   have c14b0 : decide (0 ≤ x10_1) = true := decide_eq_true c14
   clear c14
   by_cases c15 : x10_1 < (t287.length : Int)
   rotate_left
   ·rw [if_neg c15] at H
    exact absurd H (by simp)
   rw [if_pos c15] at H
   have c15b0 : decide (x10_1 < (t287.length : Int)) = true := decide_eq_true c15
   clear c15
   by_cases c16 : (rd t287 x10_1) < 0
   rotate_left
   ·rw [if_neg c16] at H
    have c16b0 : decide ((rd t287 x10_1) < 0) = false := decide_eq_false c16
    clear c16
    have H' := Aside0.mk H
    clear H
    obtain ⟨Ao21, co21, eo21⟩ := Kd.N_slice HO_8.out
    subst eo21
    obtain ⟨Ao22, co22, eo22⟩ := Kd.R_slice HO_9.out
    subst eo22
    have p290 : 0 ≤ (x10_1 : Int) := oA
    have q290 : x10_1 < (t287.length : Int) := oA
    obtain ⟨ad290, e290, hx290_0⟩ := Kd.at_int (Kd.R_reads' HO_9.out).2.2 x10_1 p290 q290
    cases e290
    replace p290 := eq_true p290
    replace q290 := eq_true q290
    go_wp2
    go_roundg k1
    case measure => have := HK1.out;omega
    case rel => exact ⟨(x7_1), (wrap64 (x10_1 + 1)), eF, H', ⟨by have := HK1.out;omega⟩, ⟨by (with_reducible repeat (first | apply Kd.N_alloc | apply Kd.N_drewN | apply Kd.N_drew));exact HO_7.out⟩, ⟨by (with_reducible repeat (first | apply Kd.N_alloc | apply Kd.N_drewN | apply Kd.N_drew));exact HO_8.out⟩, ⟨by exact rP HO_9.out⟩, ⟨by exact kP BK280.out⟩, ⟨by exact bB⟩⟩
   rw [if_pos c16] at H
   have c16b0 : decide ((rd t287 x10_1) < 0) = true := decide_eq_true c16
   clear c16
   by_cases c17 : x7_1.length < 5864062014805
   rotate_left
   ·rw [if_neg c17] at H
    exact absurd H (by simp)
   rw [if_pos c17] at H
   have LMc17 := Aside0.mk c17
   clear c17
   obtain ⟨y292, hy292⟩ : ∃ y_ : List (List Int), y_ = (x7_1 ++ [rd_L2 t284 x10_1]) := ⟨_, rfl⟩
   replace H : (spec_l10Family.l0 k1 y292 t284 t287 (wrap64 (x10_1 + 1))) = some r := by first | (rw [hy292];with_reducible exact H) | (have H2_ := (Option.bind_some _ _).symm.trans H;rw [hy292];with_reducible exact H2_) | (have H2_ := (Option.bind_some _ _).symm.trans H;with_reducible exact H2_) | with_reducible exact H | (rw [hy292];exact H) | exact H
   have Ny292 := Aside0.mk hy292
   clear hy292
   have H' := Aside0.mk H
   clear H
   obtain ⟨Ao18, co18, eo18⟩ := Kd.N_slice HO_8.out
   subst eo18
   obtain ⟨Ao19, co19, eo19⟩ := Kd.R_slice HO_9.out
   subst eo19
   have p290 : 0 ≤ (x10_1 : Int) := oA
   have q290 : x10_1 < (t287.length : Int) := oA
   obtain ⟨ad290, e290, hx290_0⟩ := Kd.at_int (Kd.R_reads' HO_9.out).2.2 x10_1 p290 q290
   cases e290
   replace p290 := eq_true p290
   replace q290 := eq_true q290
   have p291 : 0 ≤ (x10_1 : Int) := oA
   have q291 : x10_1 < (t284.length : Int) := oA
   obtain ⟨ad291, A291_0, c291_0, e291, hx291_0, hl291_0, hi291_0⟩ := at_L2 (Kd.N_reads' HO_8.out).2.2 x10_1 p291 q291
   cases e291
   obtain ⟨ce291, hce291, hMe291, hcc291⟩ := Kd.N_get HO_8.out [] x10_1 p291 (by first | exact q291 | exact oA | (have e_ := (Kd.N_reads' HO_8.out).1;omega))
   obtain ⟨ua291_0, uc291_0, rfl, ul291_0, ge291_0⟩ := Kd.FK_slice_open hMe291
   have hv291_0 := hcc291 0 _ rfl
   rw [Nat.add_zero, show ((Kd.slice 3 (Kd.int .i64))).sz = 1 from rfl, Nat.mul_one] at hv291_0
   replace hv291_0 := Option.some.inj (hv291_0.symm.trans hx291_0)
   injection hv291_0 with hva_ hvn_ hvc_
   rw [hva_] at ge291_0
   rw [hvc_] at ul291_0
   have HL291_0 := aM (show Kd.V (Kd.int .i64) 3 _ w.heap.size _ _ (rd_L2 t284 x10_1) from Kd.V_mk ul291_0 ge291_0)
   clear hva_ hvn_ hvc_ ge291_0 ul291_0
   clear hcc291 hce291
   have HR291_0 := Aside0.mk hi291_0
   have HC291_0 := Aside0.mk hl291_0
   clear hi291_0 hl291_0
   replace p291 := eq_true p291
   replace q291 := eq_true q291
   go_wp2_with (first | ((with_reducible refine gate_builtin (b := .append) (xs := #[.tmp 30, .tmp 35]) rfl ?_);at_builtin;refine Kd.N_append (Kd.slice 3 (Kd.int .i64)) (w0 := w) w.heap.size rfl (.tmp 30) (.tmp 35) 26 36 (.slice none 0 0) 24 rfl Tryd.underlying26 info36 rfl (by decide) (by omega) u7 x7_1 (rd_L2 t284 x10_1) [.slice A291_0 (rd_L2 t284 x10_1).length c291_0] (fun k_ => (w.heap.size ≤ k_) ∧ some k_ ≠ (.slice (some ad291) t284.length co18 : Value).ownBlock ∧ some k_ ≠ (.slice (some ad290) t287.length co19 : Value).ownBlock ∧ k_ ≠ gb280) (fun k_ => ((fun k_ => (w.heap.size ≤ k_) ∧ some k_ ≠ (.slice (some ad291) t284.length co18 : Value).ownBlock ∧ some k_ ≠ (.slice (some ad290) t287.length co19 : Value).ownBlock ∧ k_ ≠ gb280)) k_ ∧ some k_ ≠ (u7 : Value).ownBlock) rfl rfl ?aP (fun _ hk => hk) ?aF ?aO ?aB ?aS ?aL ?_;(case aP => exact (Kd.FK_slice_mk (Kd.V_reads' (Kd.V_mono (ok' := (fun k_ => ((fun k_ => (w.heap.size ≤ k_) ∧ some k_ ≠ (.slice (some ad291) t284.length co18 : Value).ownBlock ∧ some k_ ≠ (.slice (some ad290) t287.length co19 : Value).ownBlock ∧ k_ ≠ gb280)) k_ ∧ some k_ ≠ (u7 : Value).ownBlock)) (HL291_0.out) (fun k_ hk => ⟨⟨hk.1.1, ⟨hk.2, ⟨hk.1.2.2.1, hk.1.2.2.2⟩⟩⟩, hk.1.2.1⟩))).2.1 (Kd.V_F (Kd.V_mono (ok' := (fun k_ => ((fun k_ => (w.heap.size ≤ k_) ∧ some k_ ≠ (.slice (some ad291) t284.length co18 : Value).ownBlock ∧ some k_ ≠ (.slice (some ad290) t287.length co19 : Value).ownBlock ∧ k_ ≠ gb280)) k_ ∧ some k_ ≠ (u7 : Value).ownBlock)) (HL291_0.out) (fun k_ hk => ⟨⟨hk.1.1, ⟨hk.2, ⟨hk.1.2.2.1, hk.1.2.2.2⟩⟩⟩, hk.1.2.1⟩)))));(case aB => exact (by exact bB));(case aF => exact (fun k_ hk => ⟨(Nat.le_trans (below_size (by exact bB)) hk), Kd.fresh' (Kd.N_lt (by exact uP HO_8.out)) k_ hk, Kd.fresh' (Kd.R_lt (by exact rP HO_9.out)) k_ hk, Kd.freshB (g := gb280) (o := .cells #[.int .i64 a0_0, .slice A0_1 l0_1.length c0_1] 29 (0, 0)) (by exact kP BK280.out) k_ hk⟩));(case aO => exact (by exact uP HO_7.out));(case aS => exact (below_size (by exact bB)));(case aL => have := LMc17.out;omega);intro v293 w20 ho hb hg hat;rw [← Ny292.out] at ho;have n0_ := aM (Kd.N_afterv (ok := (fun k_ => (w.heap.size ≤ k_) ∧ some k_ ≠ (.slice (some ad290) t287.length co19 : Value).ownBlock ∧ k_ ≠ gb280)) (by (with_reducible repeat (first | apply Kd.N_alloc | apply Kd.N_drewN | apply Kd.N_drew));exact Kd.N_mono HO_8.out (fun _ hk => ⟨⟨hk.1, ⟨hk.2.2.1, hk.2.2.2⟩⟩, hk.2.1⟩)) hg hat);have n1_ := aM (Kd.R_over' (by exact rP HO_9.out) (Kd.N_typed (by exact uP HO_7.out)) (by decide) hg);have n2_ := aM (blk_grown (g := gb280) (o := .cells #[.int .i64 a0_0, .slice A0_1 l0_1.length c0_1] 29 (0, 0)) (by exact kP BK280.out) hg (Kd.N_ne HO_7.out BK280.out (by decide)));have n3_ := aM (Kd.V_afterv (ok := (fun k_ => (w.heap.size ≤ k_) ∧ some k_ ≠ (.slice (some ad291) t284.length co18 : Value).ownBlock ∧ some k_ ≠ (.slice (some ad290) t287.length co19 : Value).ownBlock ∧ k_ ≠ gb280)) (by (with_reducible repeat (first | apply Kd.V_alloc | apply Kd.V_drewN | apply Kd.V_drew));exact Kd.V_mono HL291_0.out (fun _ hk => ⟨⟨hk.1.1, ⟨hk.2, ⟨hk.1.2.2.1, hk.1.2.2.2⟩⟩⟩, hk.1.2.1⟩)) hg hat);have n4_ := aM (hb);have n5_ := aM (ho);clear HO_8;clear HO_9;clear BK280;clear HL291_0;clear HB;clear HO_7;have HO_8 := n0_;have HO_9 := n1_;have BK280 := n2_;have HL291_0 := n3_;have HB := n4_;have HO294 := n5_;clear n0_ n1_ n2_ n3_ n4_ n5_;clear ho hb hg hat))
   go_roundg k1
   case measure => have := HK1.out;omega
   case rel => exact ⟨(y292), (wrap64 (x10_1 + 1)), eF, H', ⟨by have := HK1.out;omega⟩, ⟨by (with_reducible repeat (first | apply Kd.N_alloc | apply Kd.N_drewN | apply Kd.N_drew));exact HO294.out⟩, ⟨by (with_reducible repeat (first | apply Kd.N_alloc | apply Kd.N_drewN | apply Kd.N_drew));exact Kd.N_mono HO_8.out (fun _ hk => ⟨hk.1.1, ⟨hk.2, ⟨hk.1.2.1, hk.1.2.2⟩⟩⟩)⟩, ⟨by exact rP HO_9.out⟩, ⟨by exact kP BK280.out⟩, ⟨by exact bB⟩⟩


/-! ### spec_EternalFamily: function 8 -/
def spec_EternalFamily.f (k : Nat) (a0_0 : Int) (l0_1 : List (S78)) (a1 : Int) (a2 : Bool) : Option ((List (List Int)) × Bool) := (spec_l10Good.f a0_0 l0_1 a1).bind fun t296 => (if t296 = true then ((spec_l10Family.f k a0_0 l0_1 a1 a2).bind fun t297 => (some (t297, decide ((t297.length : Int) > 0)))) else (some ((([] : List (List Int))), false)))
theorem spec_EternalFamily.mono : ∀ a0 a1 a2 a3 k, LeO (spec_EternalFamily.f k a0 a1 a2 a3) (spec_EternalFamily.f (k + 1) a0 a1 a2 a3) := by
 intro a0 a1 a2 a3 k
 unfold spec_EternalFamily.f
 have q0 := spec_l10Family.mono
 exact lM
theorem spec_EternalFamily.calls (k : Nat) (a0_0 : Int) (A0_1 : Option Addr) (c0_1 : Nat) (l0_1 : List (S78)) (a1 : Int) (a2 : Bool) (r1 : List (List Int)) (r2 : Bool) (w : World) (hr0_1 : Kd.C k78 w A0_1 l0_1.length l0_1) (hc0_1 : l0_1.length ≤ c0_1) (h : spec_EternalFamily.f k a0_0 l0_1 a1 a2 = some (r1, r2)) :
  Calls Tryd.prog 8 #[.agg #[.int .i64 a0_0, .slice A0_1 l0_1.length c0_1], .int .i64 a1, .bool a2] w fun e w' => ∃ v0_ : Value, e = .returned (.tuple #[v0_, .bool r2]) ∧ Kd.N (Kd.slice 3 (Kd.int .i64)) 36 w' w.heap.size (fun k_ => (w.heap.size ≤ k_)) v0_ r1 ∧ Below w.heap.size w w' := by
 have hu29 := Tryd.underlying29
 have HR0_1 := Aside0.mk hr0_1
 have HC0_1 := Aside0.mk hc0_1
 clear hr0_1 hc0_1
 have HB := aM (Below.refl w.heap.size w)
 have H : ((spec_l10Good.f a0_0 l0_1 a1).bind fun t296 => (if t296 = true then ((spec_l10Family.f k a0_0 l0_1 a1 a2).bind fun t297 => (some (t297, decide ((t297.length : Int) > 0)))) else (some ((([] : List (List Int))), false)))) = some (r1, r2) := h
 clear h
 replace H := Option.bind_eq_some_iff.mp H
 obtain ⟨t296, A40, H⟩ := H
 try dsimp only at H
 have A4 := Aside0.mk A40
 clear A40
 by_cases c5 : t296 = true
 rotate_left
 ·replace c5 := Bool.eq_false_iff.mpr c5
  subst c5
  rw [if_neg (show ¬ (false = true) by decide)] at H
  obtain ⟨y300, hy300⟩ : ∃ y_ : List (List Int), y_ = (([] : List (List Int))) := ⟨_, rfl⟩
  replace H : (some (y300, false)) = some (r1, r2) := by first | (rw [hy300];with_reducible exact H) | (have H2_ := (Option.bind_some _ _).symm.trans H;rw [hy300];with_reducible exact H2_) | (have H2_ := (Option.bind_some _ _).symm.trans H;with_reducible exact H2_) | with_reducible exact H | (rw [hy300];exact H) | exact H
  have Ny300 := Aside0.mk hy300
  clear hy300
  simp only [Option.some.injEq, Prod.mk.injEq] at H
  obtain ⟨rfl, rfl⟩ := H
  go_enter Tryd.func8, Tryd.ntmps8
  go_wp2_with (first | ((with_reducible refine gate_dst (N := 3) rfl ?_);refine box_event ?hg (N := 3) ?hd (cs := #[.int .i64 a0_0, .slice A0_1 l0_1.length c0_1]) (t := 29) ?hr ?_;(case hd => rfl);(case hg => rfl);(case hr => exact gS);intro gb295 hg w13 hbox hb;have n0_ := aM (below_step (by exact bB) hb);have n1_ := aM (hbox);have n2_ := aM (sW hg : w.heap.size ≤ gb295);have n3_ := aM (sW hg : w.heap.size ≤ gb295);clear HB;have HB := n0_;have BK295 := n1_;have GW295 := n2_;have GE295 := n3_;clear n0_ n1_ n2_ n3_;clear hb hbox hg;have hcz14_0 := bC0 BK295.out;have hcz14_1 := bC1 BK295.out;have hfz14_0 := blk_frozen BK295.out 0;have hfz14_1 := blk_frozen BK295.out 1) | ((with_reducible refine gate_callee (f := 27) rfl ?_);refine goesL_ (some 11) rfl rfl Tryd.func27 (by kernel_rfl) rfl #[.agg #[.int .i64 a0_0, .slice A0_1 l0_1.length c0_1], .int .i64 a1] rfl mM ?_;(with_reducible refine (spec_l10Good.calls a0_0 _ _ l0_1 a1 false _ ?side1 ?side2 A4.out).mono ?_);(case side1 => exact cP (Kd.C_below HR0_1.out HB.out));(case side2 => exact HC0_1.out);rintro e w15 ⟨rfl, hb⟩;refine ⟨_, rfl, ?_⟩;have n0_ := aM (kB hb BK295.out);have n1_ := aM (below_step (by exact bB) hb);clear BK295;clear HB;have BK295 := n0_;have HB := n1_;clear n0_ n1_;(try clear hb)) | ((with_reducible refine gate_dst (N := 13) rfl ?_);refine Kd.N_lit (Kd.slice 3 (Kd.int .i64)) _ 36 ?hg (N' := 13) ?hd (xs := ([] : List (List Int))) (inner := []) (ok := (fun k_ => (w.heap.size ≤ k_) ∧ k_ ≠ gb295)) (okp := (fun k_ => (w.heap.size ≤ k_) ∧ k_ ≠ gb295)) ?hr ?hp (fun _ hk => hk) ((show ∀ k_, w15.heap.size ≤ k_ → (fun k_ => (w.heap.size ≤ k_) ∧ k_ ≠ gb295) k_ from fun k_ hk => ⟨(Nat.le_trans (below_size (by exact bB)) hk), Kd.freshB (g := gb295) (o := .cells #[.int .i64 a0_0, .slice A0_1 l0_1.length c0_1] 29 (0, 0)) (by exact kP BK295.out) k_ hk⟩) _ (Nat.le_refl _)) (Below.refl _ _) (Nat.le_refl _) (by simp) ?_;(case hd => rfl);(case hg => rfl);(case hr => exact gS);(case hp => exact (Reps.none _ _));intro v301 w16 ho17 hb hg_ hnew_;clear hg_ hnew_;(first | rw [← Ny300.out] at ho17 | (simp only [Int.reduceToNat] at ho17;rw [← Ny300.out] at ho17));have n0_ := aM (Kd.N_lower ho17 (below_size (by exact bB)));have n1_ := aM (kB hb BK295.out);have n2_ := aM (below_step (by exact bB) hb);clear BK295;clear HB;have HO302 := n0_;have BK295 := n1_;have HB := n2_;clear n0_ n1_ n2_;clear hb ho17))
  go_ret2
  exact ⟨_, eW, by (with_reducible repeat (first | apply Kd.N_alloc | apply Kd.N_drewN | apply Kd.N_drew));exact Kd.N_mono HO302.out (fun _ hk => hk.1), by exact bB⟩
 subst c5
 rw [if_pos rfl] at H
 replace H := Option.bind_eq_some_iff.mp H
 obtain ⟨t297, A60, H⟩ := H
 try dsimp only at H
 have A6 := Aside0.mk A60
 clear A60
 simp only [Option.some.injEq, Prod.mk.injEq] at H
 obtain ⟨rfl, rfl⟩ := H
 go_enter Tryd.func8, Tryd.ntmps8
 go_wp2_with (first | ((with_reducible refine gate_dst (N := 3) rfl ?_);refine box_event ?hg (N := 3) ?hd (cs := #[.int .i64 a0_0, .slice A0_1 l0_1.length c0_1]) (t := 29) ?hr ?_;(case hd => rfl);(case hg => rfl);(case hr => exact gS);intro gb295 hg w7 hbox hb;have n0_ := aM (below_step (by exact bB) hb);have n1_ := aM (hbox);have n2_ := aM (sW hg : w.heap.size ≤ gb295);have n3_ := aM (sW hg : w.heap.size ≤ gb295);clear HB;have HB := n0_;have BK295 := n1_;have GW295 := n2_;have GE295 := n3_;clear n0_ n1_ n2_ n3_;clear hb hbox hg;have hcz8_0 := bC0 BK295.out;have hcz8_1 := bC1 BK295.out;have hfz8_0 := blk_frozen BK295.out 0;have hfz8_1 := blk_frozen BK295.out 1) | ((with_reducible refine gate_callee (f := 27) rfl ?_);refine goesL_ (some 11) rfl rfl Tryd.func27 (by kernel_rfl) rfl #[.agg #[.int .i64 a0_0, .slice A0_1 l0_1.length c0_1], .int .i64 a1] rfl mM ?_;(with_reducible refine (spec_l10Good.calls a0_0 _ _ l0_1 a1 true _ ?side1 ?side2 A4.out).mono ?_);(case side1 => exact cP (Kd.C_below HR0_1.out HB.out));(case side2 => exact HC0_1.out);rintro e w9 ⟨rfl, hb⟩;refine ⟨_, rfl, ?_⟩;have n0_ := aM (kB hb BK295.out);have n1_ := aM (below_step (by exact bB) hb);clear BK295;clear HB;have BK295 := n0_;have HB := n1_;clear n0_ n1_;(try clear hb);have hcz10_0 := bC0 BK295.out;have hcz10_1 := bC1 BK295.out;have hfz10_0 := blk_frozen BK295.out 0;have hfz10_1 := blk_frozen BK295.out 1) | ((with_reducible refine gate_callee (f := 28) rfl ?_);refine goesL_ (some 17) rfl rfl Tryd.func28 (by kernel_rfl) rfl #[.agg #[.int .i64 a0_0, .slice A0_1 l0_1.length c0_1], .int .i64 a1, .bool a2] rfl mM ?_;(with_reducible refine (spec_l10Family.calls k a0_0 _ _ l0_1 a1 a2 t297 _ ?side1 ?side2 A6.out).mono ?_);(case side1 => exact cP (Kd.C_below HR0_1.out HB.out));(case side2 => exact HC0_1.out);rintro e w11 ⟨v298, rfl, ho0, hb⟩;refine ⟨_, rfl, ?_⟩;have n0_ := aM (Kd.N_lower (Kd.N_mono (ok' := fun k_ => (w.heap.size ≤ k_) ∧ k_ ≠ gb295) ho0 (fun k_ hk_ => ⟨(Nat.le_trans (below_size (by exact bB)) hk_), (Kd.freshB (g := gb295) (o := .cells #[.int .i64 a0_0, .slice A0_1 l0_1.length c0_1] 29 (0, 0)) (by exact kP BK295.out) k_ hk_)⟩)) (below_size (by exact bB)));have n1_ := aM (kB hb BK295.out);have n2_ := aM (below_step (by exact bB) hb);clear BK295;clear HB;have HO299 := n0_;have BK295 := n1_;have HB := n2_;clear n0_ n1_ n2_;(try clear hb);(try clear ho0);obtain ⟨Ao12, co12, eo12⟩ := Kd.N_slice HO299.out;subst eo12))
 go_ret2
 exact ⟨_, eW, by (with_reducible repeat (first | apply Kd.N_alloc | apply Kd.N_drewN | apply Kd.N_drew));exact Kd.N_mono HO299.out (fun _ hk => hk.1), by exact bB⟩


/-! ### laws_toIntA2: by hand -/
def laws_toIntA2.f (a0_0 : Int) (a0_1 : Int) : Option (Int × Int) := some (a0_0, a0_1)
theorem laws_toIntA2.calls (a0_0 : Int) (a0_1 : Int) (r1 : Int) (r2 : Int) (w : World) (h : laws_toIntA2.f a0_0 a0_1 = some (r1, r2)) :
  Calls Tryd.prog 58 #[.agg #[.int .i64 a0_0, .int .i64 a0_1]] w fun e w' => e = .returned (.agg #[.int .i64 r1, .int .i64 r2]) ∧ Below w.heap.size w w' := by
 obtain ⟨rfl, rfl⟩ : a0_0 = r1 ∧ a0_1 = r2 := by simpa [laws_toIntA2.f] using h
 clear h
 go_enter Tryd.func58, Tryd.ntmps58
 go_wp2
 refine wp_loop_rounds 3 ?_
 rw [rounds_succ]
 go_wp2
 rw [rounds_succ]
 go_wp2
 rw [rounds_succ]
 go_wp2
 refine bodyPost_ret (v := .agg #[.int .i64 a0_0, .int .i64 a0_1]) (by simp [results, Tryd.results58, go_sem]) rfl ⟨rfl, ?_⟩
 repeat (first | exact Below.refl _ _ | apply below_alloc | refine below_set ?_ (by simp))

/-! ### laws_toIntA2S: function 29 -/
def laws_toIntA2S.l0 : Nat → List (S78) → List (S78) → Int → Option ((List (S78)))
 | 0, _, _, _ => none
 | k + 1, x0, x3, x4 => if x4 < (x0.length : Int) then (if 0 ≤ x4 then ((laws_toIntA2.f ((rd_T78 x0 x4).f0) ((rd_T78 x0 x4).f1)).bind fun bt309 => (if x4 < (x3.length : Int) then (laws_toIntA2S.l0 k x0 (x3.set (x4 : Int).toNat (⟨bt309.1, bt309.2⟩ : S78)) (wrap64 (x4 + 1))) else (none))) else (none)) else (some x3)
def laws_toIntA2S.f (k : Nat) (l0 : List (S78)) : Option ((List (S78))) := if 0 ≤ (l0.length : Int) then (if ((l0.length : Int) : Int).toNat ≤ 17592186044416 then (laws_toIntA2S.l0 k l0 (List.replicate ((l0.length : Int) : Int).toNat z78) 0) else (none)) else (none)
theorem laws_toIntA2S.mono_l : ∀ k, (∀ y0 y1 y2, LeO (laws_toIntA2S.l0 k y0 y1 y2) (laws_toIntA2S.l0 (k + 1) y0 y1 y2))
 | 0 => fun _ _ _ r h => by simp [laws_toIntA2S.l0] at h
 | k + 1 => by
  have ih0 := laws_toIntA2S.mono_l k
  ·intro y0 y1 y2
   unfold laws_toIntA2S.l0
   exact lM
theorem laws_toIntA2S.mono : ∀ a0 k, LeO (laws_toIntA2S.f k a0) (laws_toIntA2S.f (k + 1) a0) := by
 intro a0 k
 have ih0 := laws_toIntA2S.mono_l k
 unfold laws_toIntA2S.f
 exact lM
theorem laws_toIntA2S.calls (k : Nat) (A0 : Option Addr) (c0 : Nat) (l0 : List (S78)) (r : List (S78)) (w : World) (hr0 : Kd.C k78 w A0 l0.length l0) (hc0 : l0.length ≤ c0) (h : laws_toIntA2S.f k l0 = some r) :
  Calls Tryd.prog 29 #[.slice A0 l0.length c0] w fun e w' => ∃ v0_ : Value, e = .returned (v0_) ∧ Kd.R k78 78 w' w.heap.size (fun _ => True) v0_ r ∧ Below w.heap.size w w' := by
 have hu78 := Tryd.underlying78
 have HR0 := Aside0.mk hr0
 have HC0 := Aside0.mk hc0
 clear hr0 hc0
 have HB := aM (Below.refl w.heap.size w)
 have H : (if 0 ≤ (l0.length : Int) then (if ((l0.length : Int) : Int).toNat ≤ 17592186044416 then (laws_toIntA2S.l0 k l0 (List.replicate ((l0.length : Int) : Int).toNat z78) 0) else (none)) else (none)) = some r := h
 clear h
 by_cases c2 : 0 ≤ (l0.length : Int)
 rotate_left
 ·rw [if_neg c2] at H
  exact absurd H (by simp)
 rw [if_pos c2] at H
 have c2b0 := eq_true c2
 have c2b1 : decide (0 ≤ (l0.length : Int)) = true := decide_eq_true c2
 clear c2
 by_cases c3 : ((l0.length : Int) : Int).toNat ≤ 17592186044416
 rotate_left
 ·rw [if_neg c3] at H
  exact absurd H (by simp)
 rw [if_pos c3] at H
 have c3b0 := eq_true c3
 have c3b1 : decide (((l0.length : Int) : Int).toNat ≤ 17592186044416) = true := decide_eq_true c3
 clear c3
 obtain ⟨y305, hy305⟩ : ∃ y_ : List (S78), y_ = (List.replicate ((l0.length : Int) : Int).toNat z78) := ⟨_, rfl⟩
 replace H : (laws_toIntA2S.l0 k l0 y305 0) = some r := by first | (rw [hy305];with_reducible exact H) | (have H2_ := (Option.bind_some _ _).symm.trans H;rw [hy305];with_reducible exact H2_) | (have H2_ := (Option.bind_some _ _).symm.trans H;with_reducible exact H2_) | with_reducible exact H | (rw [hy305];exact H) | exact H
 have Ny305 := Aside0.mk hy305
 clear hy305
 have H' := Aside0.mk H
 clear H
 go_enter Tryd.func29, Tryd.ntmps29
 go_wp2_with (first | ((with_reducible refine gate_dst (N := 7) rfl ?_);refine Kd.R_make k78 _ 78 rfl (N := 7) rfl 22 _ _ rfl (l0.length : Int) rfl rfl Tryd.underlying22 (.agg #[(.int .i64 0), (.int .i64 0)]) 16 info78 rfl (by decide) (by omega) z78 (ok := fun _ => True) (okp := fun _ => True) (k78_mkM _ _ _ z78 ) (fun _ hk => hk) trivial (oA) (Nat.le_trans (Nat.mul_le_mul_right _ (oA : (l0.length : Int).toNat ≤ 17592186044416)) (by omega)) (Below.refl _ _) (Nat.le_refl _) ?_;intro v306 w4 ho5 hb hg_ hnew_;clear hg_ hnew_;(first | rw [← Ny305.out] at ho5 | (simp only [Int.reduceToNat] at ho5;rw [← Ny305.out] at ho5));have n0_ := aM (Kd.R_lower ho5 (below_size (by exact bB)));have n1_ := aM (below_step (by exact bB) hb);clear HB;have HO307 := n0_;have HB := n1_;clear n0_ n1_;clear hb ho5))
 go_loopg [4] k (fun kq v4 w' => ∃ (x3_1 : List (S78)) (x4_1 : Int), v4 = .int .i64 x4_1 ∧ Aside0 (laws_toIntA2S.l0 kq l0 x3_1 x4_1 = some r) ∧ Aside0 (kq ≤ k) ∧ Aside0 (Kd.R k78 78 w' w.heap.size (fun _ => True) v306 x3_1) ∧ Aside0 (Below w.heap.size w w'))
 case atStart => exact ⟨(y305), (0), eF, H', ⟨Nat.le_refl _⟩, ⟨by exact rP HO307.out⟩, ⟨by exact bB⟩⟩
 case round =>
  clear H'
  try clear c2
  try clear c2b0
  try clear c2b1
  try clear p2
  try clear c3
  try clear c3b0
  try clear c3b1
  obtain ⟨x3_1, x4_1, rfl, HA, HK1, HO_3, HB⟩ := hrel
  cases gk with
  | zero => exact absurd HA.out (by simp [laws_toIntA2S.l0])
  | succ k1 =>
   have H := HA.out
   clear HA
   simp only [laws_toIntA2S.l0] at H
   by_cases c6 : x4_1 < (l0.length : Int)
   rotate_left
   ·rw [if_neg c6] at H
    have c6b0 : decide (x4_1 < (l0.length : Int)) = false := decide_eq_false c6
    clear c6
    obtain rfl := Option.some.inj H
    go_wp2
    go_ret
    exact ⟨_, eW, by exact rP HO_3.out, by exact bB⟩
   rw [if_pos c6] at H
   have c6b0 : decide (x4_1 < (l0.length : Int)) = true := decide_eq_true c6
   clear c6
   by_cases c7 : 0 ≤ x4_1
   rotate_left
   ·rw [if_neg c7] at H
    exact absurd H (by simp)
   rw [if_pos c7] at H
   have c7b0 : decide (0 ≤ x4_1) = true := decide_eq_true c7
   clear c7
   replace H := Option.bind_eq_some_iff.mp H
   obtain ⟨⟨t309, t310⟩, A80, H⟩ := H
   try dsimp only at H
   have A8 := Aside0.mk A80
   clear A80
   by_cases c9 : x4_1 < (x3_1.length : Int)
   rotate_left
   ·rw [if_neg c9] at H
    exact absurd H (by simp)
   rw [if_pos c9] at H
   have c9b0 : decide (x4_1 < (x3_1.length : Int)) = true := decide_eq_true c9
   clear c9
   obtain ⟨y311, hy311⟩ : ∃ y_ : List (S78), y_ = (x3_1.set (x4_1 : Int).toNat (⟨t309, t310⟩ : S78)) := ⟨_, rfl⟩
   replace H : (laws_toIntA2S.l0 k1 l0 y311 (wrap64 (x4_1 + 1))) = some r := by first | (rw [hy311];with_reducible exact H) | (have H2_ := (Option.bind_some _ _).symm.trans H;rw [hy311];with_reducible exact H2_) | (have H2_ := (Option.bind_some _ _).symm.trans H;with_reducible exact H2_) | with_reducible exact H | (rw [hy311];exact H) | exact H
   have Ny311 := Aside0.mk hy311
   clear hy311
   have H' := Aside0.mk H
   clear H
   have p308 : 0 ≤ (x4_1 : Int) := oA
   have q308 : x4_1 < (l0.length : Int) := oA
   obtain ⟨ad308, e308, hx308_0, hx308_1⟩ := at_T78 HR0.out x4_1 p308 q308
   cases e308
   replace hx308_0 := (HB.out.cell (World.block_lt_of_cell? w _ hx308_0)).trans hx308_0
   replace hx308_1 := (HB.out.cell (World.block_lt_of_cell? w _ hx308_1)).trans hx308_1
   replace p308 := eq_true p308
   replace q308 := eq_true q308
   go_wp2_with (first | ((with_reducible refine gate_callee (f := 58) rfl ?_);refine goesL_ (some 20) rfl rfl Tryd.func58 (by kernel_rfl) rfl #[.agg #[.int .i64 ((rd_T78 l0 x4_1).f0), .int .i64 ((rd_T78 l0 x4_1).f1)]] rfl mM ?_;(with_reducible refine (laws_toIntA2.calls ((rd_T78 l0 x4_1).f0) ((rd_T78 l0 x4_1).f1) t309 t310 _ A8.out).mono ?_);rintro e w11 ⟨rfl, hb⟩;refine ⟨_, rfl, ?_⟩;have n0_ := aM (Kd.R_below (by exact rP HO_3.out) hb);have n1_ := aM (below_step (by exact bB) hb);clear HO_3;clear HB;have HO_3 := n0_;have HB := n1_;clear n0_ n1_;(try clear hb);have p10 : 0 ≤ (x4_1 : Int) := oA;have q10 : (x4_1 : Int) < ((x3_1.length : Int) : Int) := oA;obtain ⟨go10, co10, eo10, gb10, gl10, cl10, HG10⟩ := Kd.R_form HO_3.out (by omega);(first | cases eo10 | (injection eo10 with ea_ en_ ec_;(first | subst ea_ | (injection ea_ with ea_;subst ea_));subst ec_;clear en_));have GB10 := Aside0.mk gb10;have GG10 := Aside0.mk HG10;clear gb10 gl10 HG10;obtain ⟨ce10, hcl10, hM10, hcc10, hfr10⟩ := Kd.R_elem HO_3.out z78 (x4_1 : Int) p10 q10;obtain rfl := k78_openM hM10;have hx10_0 : w11.cell? ⟨go10, (x4_1 : Int).toNat * 2, none⟩ = some (.int .i64 ((rd_T78 x3_1 x4_1).f0)) := hcc10 0 _ rfl;have hx10_1 : w11.cell? ⟨go10, (x4_1 : Int).toNat * 2 + 1, none⟩ = some (.int .i64 ((rd_T78 x3_1 x4_1).f1)) := hcc10 1 _ rfl;have hf10_0 : w11.frozen? ⟨go10, (x4_1 : Int).toNat * 2, none⟩ = false := hfr10 0;have hf10_1 : w11.frozen? ⟨go10, (x4_1 : Int).toNat * 2 + 1, none⟩ = false := hfr10 1;clear hcl10 hcc10 hfr10;(try clear hM10);replace p10 := eq_true p10;replace q10 := eq_true q10;have HX12 := aM (show Kd.R k78 78 w11 w.heap.size (fun _ => True) (.slice (some ⟨go10, 0, none⟩) x3_1.length co10) x3_1 from (by exact rP HO_3.out));obtain ⟨ce12, hcl12, hM12, hcc12, hfr12⟩ := Kd.R_elem HX12.out z78 (x4_1 : Int) (oA) (by have h_ : (x4_1 : Int) < ((x3_1.length : Int) : Int) := oA;first | exact h_ | (have e_ := (Kd.R_reads' HO_3.out).1;omega) | simpa using h_);obtain rfl := k78_openM hM12;have HP12 := Kd.R_seg HX12.out (x4_1 : Int) (oA) (by have h_ : (x4_1 : Int) < ((x3_1.length : Int) : Int) := oA;first | exact h_ | (have e_ := (Kd.R_reads' HO_3.out).1;omega) | simpa using h_) (seg := [.int .i64 t309, .int .i64 t310]) (j := 0) hcl12 hcc12 (show 2 ≤ 2 from by decide) (x' := (⟨t309, t310⟩ : S78)) (k78_mkM _ _ _ (⟨t309, t310⟩ : S78) ) (fun _ hk => hk);have hx12_0 := hcc12 0 _ rfl;(try simp only [show (k78).sz = 2 from rfl, Nat.mul_one, Nat.add_zero] at hx12_0);have hf12_0 := hfr12 0;(try simp only [show (k78).sz = 2 from rfl, Nat.mul_one, Nat.add_zero] at hf12_0);have hx12_1 := hcc12 1 _ rfl;(try simp only [show (k78).sz = 2 from rfl, Nat.mul_one, Nat.add_zero] at hx12_1);have hf12_1 := hfr12 1;(try simp only [show (k78).sz = 2 from rfl, Nat.mul_one, Nat.add_zero] at hf12_1);clear hcl12 hcc12 hfr12;(try clear hM12)) | ((with_reducible refine gate_store (t := 78) (p := 21) rfl ?_);refine store_event (t := 78) (p := 21) (v := ?vo_w13) (w1 := ((w11.setCell ⟨go10, (x4_1 : Int).toNat * 2, none⟩ (.int .i64 t309)).setCell ⟨go10, (x4_1 : Int).toNat * 2 + 1, none⟩ (.int .i64 t310))) ?hg ?ho ?hn ?hr ?_;(case ho => rfl);(case hg => rfl);(case hn => rfl);(case hr => exact gS);intro w13 hw;have hg : w11.grownBy w13 (some go10) := (by rw [hw];exact HP12.2);have hp_ : Kd.R k78 78 w13 w.heap.size (fun _ => True) (.slice (some ⟨go10, 0, none⟩) x3_1.length co10) y311 := (by rw [hw, Ny311.out];exact HP12.1);clear HP12;have n0_ := aM (hp_);have n1_ := aM ((by rw [hw];exact below_set (below_set (HB.out) GB10.out) GB10.out : Below w.heap.size w w13));clear HO_3;clear HB;have HO_3 := n0_;have HB := n1_;clear n0_ n1_;clear hg hw hp_))
   go_roundg k1
   case measure => have := HK1.out;omega
   case rel => exact ⟨(y311), (wrap64 (x4_1 + 1)), eF, H', ⟨by have := HK1.out;omega⟩, ⟨by exact rP HO_3.out⟩, ⟨by exact bB⟩⟩


/-! ### laws_toGraph: function 9 -/
def laws_toGraph.f (k : Nat) (a0_0 : Int) (l0_1 : List (S78)) : Option (Int × (List (S78))) := (laws_toIntA2S.f k l0_1).bind fun t315 => (some (a0_0, t315))
theorem laws_toGraph.mono : ∀ a0 a1 k, LeO (laws_toGraph.f k a0 a1) (laws_toGraph.f (k + 1) a0 a1) := by
 intro a0 a1 k
 unfold laws_toGraph.f
 have q0 := laws_toIntA2S.mono
 exact lM
theorem laws_toGraph.calls (k : Nat) (a0_0 : Int) (A0_1 : Option Addr) (c0_1 : Nat) (l0_1 : List (S78)) (r1 : Int) (r2 : List (S78)) (w : World) (hr0_1 : Kd.C k78 w A0_1 l0_1.length l0_1) (hc0_1 : l0_1.length ≤ c0_1) (h : laws_toGraph.f k a0_0 l0_1 = some (r1, r2)) :
  Calls Tryd.prog 9 #[.agg #[.int .i64 a0_0, .slice A0_1 l0_1.length c0_1]] w fun e w' => ∃ v1_ : Value, e = .returned (.agg #[.int .i64 r1, v1_]) ∧ Kd.R k78 78 w' w.heap.size (fun _ => True) v1_ r2 ∧ Below w.heap.size w w' := by
 have hu24 := Tryd.underlying24
 have hu29 := Tryd.underlying29
 have HR0_1 := Aside0.mk hr0_1
 have HC0_1 := Aside0.mk hc0_1
 clear hr0_1 hc0_1
 have HB := aM (Below.refl w.heap.size w)
 have H : ((laws_toIntA2S.f k l0_1).bind fun t315 => (some (a0_0, t315))) = some (r1, r2) := h
 clear h
 replace H := Option.bind_eq_some_iff.mp H
 obtain ⟨t315, A20, H⟩ := H
 try dsimp only at H
 have A2 := Aside0.mk A20
 clear A20
 simp only [Option.some.injEq, Prod.mk.injEq] at H
 obtain ⟨rfl, rfl⟩ := H
 go_enter Tryd.func9, Tryd.ntmps9
 go_wp2_with (first | ((with_reducible refine gate_dst (N := 1) rfl ?_);refine box_event ?hg (N := 1) ?hd (cs := #[.int .i64 a0_0, .slice A0_1 l0_1.length c0_1]) (t := 24) ?hr ?_;(case hd => rfl);(case hg => rfl);(case hr => exact gS);intro gb312 hg w3 hbox hb;have n0_ := aM (below_step (by exact bB) hb);have n1_ := aM (hbox);have n2_ := aM (sW hg : w.heap.size ≤ gb312);have n3_ := aM (sW hg : w.heap.size ≤ gb312);clear HB;have HB := n0_;have BK312 := n1_;have GW312 := n2_;have GE312 := n3_;clear n0_ n1_ n2_ n3_;clear hb hbox hg) | ((with_reducible refine gate_dst (N := 2) rfl ?_);refine box_event ?hg (N := 2) ?hd (cs := #[.int .i64 0, .slice none 0 0]) (t := 29) ?hr ?_;(case hd => rfl);(case hg => rfl);(case hr => exact gS);intro gb313 hg w4 hbox hb;have n0_ := aM (kB hb BK312.out);have n1_ := aM (below_step (by exact bB) hb);have n2_ := aM (hbox);have n3_ := aM (sW hg : w.heap.size ≤ gb313);have n4_ := aM (sW hg : w.heap.size ≤ gb313);have n5_ := aM (nL hg (kP BK312.out));have n6_ := aM (nG hg (kP BK312.out));clear BK312;clear HB;have BK312 := n0_;have HB := n1_;have BK313 := n2_;have GW313 := n3_;have GE313 := n4_;have NB312_313 := n5_;have NB313_312 := n6_;clear n0_ n1_ n2_ n3_ n4_ n5_ n6_;clear hb hbox hg) | ((with_reducible refine gate_dst (N := 3) rfl ?_);refine box_event ?hg (N := 3) ?hd (cs := #[.int .i64 0, .slice none 0 0]) (t := 29) ?hr ?_;(case hd => rfl);(case hg => rfl);(case hr => exact gS);intro gb314 hg w5 hbox hb;have n0_ := aM (kB hb BK312.out);have n1_ := aM (kB hb BK313.out);have n2_ := aM (below_step (by exact bB) hb);have n3_ := aM (hbox);have n4_ := aM (sW hg : w.heap.size ≤ gb314);have n5_ := aM (sW hg : w.heap.size ≤ gb314);have n6_ := aM (nL hg (kP BK312.out));have n7_ := aM (nG hg (kP BK312.out));have n8_ := aM (nL hg (kP BK313.out));have n9_ := aM (nG hg (kP BK313.out));clear BK312;clear BK313;clear HB;have BK312 := n0_;have BK313 := n1_;have HB := n2_;have BK314 := n3_;have GW314 := n4_;have GE314 := n5_;have NB312_314 := n6_;have NB314_312 := n7_;have NB313_314 := n8_;have NB314_313 := n9_;clear n0_ n1_ n2_ n3_ n4_ n5_ n6_ n7_ n8_ n9_;clear hb hbox hg;have hnb6 := NB312_313.out;have hnc6 := NB313_312.out;have hnb7 := NB312_314.out;have hnc7 := NB314_312.out;have hcz8_0 := bC0 BK312.out;have hcz8_1 := bC1 BK312.out;have hfz8_0 := blk_frozen BK312.out 0;have hfz8_1 := blk_frozen BK312.out 1;have hnb9 := NB314_313.out;have hnc9 := NB313_314.out;have hcz10_0 := bC0 BK314.out;have hcz10_1 := bC1 BK314.out;have hfz10_0 := blk_frozen BK314.out 0;have hfz10_1 := blk_frozen BK314.out 1) | ((with_reducible refine gate_callee (f := 29) rfl ?_);refine goesL_ (some 9) rfl rfl Tryd.func29 (by kernel_rfl) rfl #[.slice A0_1 l0_1.length c0_1] rfl mM ?_;(with_reducible refine (laws_toIntA2S.calls k _ _ l0_1 t315 _ ?side1 ?side2 A2.out).mono ?_);(case side1 => exact Kd.C_below HR0_1.out (by exact bB));(case side2 => exact HC0_1.out);rintro e w11 ⟨v316, rfl, ho0, hb⟩;refine ⟨_, rfl, ?_⟩;have n0_ := aM (Kd.R_lower ho0 (below_size (by exact bB)));have n1_ := aM (blk_below (g := gb312) (o := .cells #[.int .i64 a0_0, .slice A0_1 l0_1.length c0_1] 24 (0, 0)) (by refine kP ?_;refine blk_far ?_ NB312_314.out _;exact kP BK312.out) hb);have n2_ := aM (blk_below (g := gb313) (o := .cells #[.int .i64 0, .slice none 0 0] 29 (0, 0)) (by refine kP ?_;refine blk_far ?_ NB313_314.out _;exact kP BK313.out) hb);have n3_ := aM (blk_below (g := gb314) (o := .cells #[.int .i64 a0_0, .slice none 0 0] 29 (0, 0)) (by refine kP ?_;refine blk_put (cs := #[.int .i64 0, .slice none 0 0]) ?_ 0 _ rfl;exact kP BK314.out) hb);have n4_ := aM (below_step (by exact bB) hb);clear BK312;clear BK313;clear BK314;clear HB;have HO317 := n0_;have BK312 := n1_;have BK313 := n2_;have BK314 := n3_;have HB := n4_;clear n0_ n1_ n2_ n3_ n4_;(try clear hb);(try clear ho0);obtain ⟨Ao12, co12, eo12⟩ := Kd.R_slice HO317.out;subst eo12;have hcz13_0 := bC0 BK314.out;have hcz13_1 := bC1 BK314.out;have hfz13_0 := blk_frozen BK314.out 0;have hfz13_1 := blk_frozen BK314.out 1;have hcz14_0 := bC0 BK313.out;have hcz14_1 := bC1 BK313.out;have hfz14_0 := blk_frozen BK313.out 0;have hfz14_1 := blk_frozen BK313.out 1))
 refine bodyPost_ret (results_cell_row rfl _ _ gb313 29 #[.int .i64 a0_0, .slice Ao12 t315.length co12] (0, 0) _ rfl (by refine kP ?_;refine blk_put (cs := #[.int .i64 a0_0, .slice none 0 0]) ?_ 1 _ rfl;refine kP ?_;refine blk_put (cs := #[.int .i64 0, .slice none 0 0]) ?_ 0 _ rfl;refine kP ?_;refine blk_far ?_ NB313_314.out _;exact kP BK313.out) Tryd.underlying29 rfl (by kernel_rfl)) rfl ?_
 exact ⟨_, eW, by refine rP ?_;exact Kd.R_mono (Kd.R_far (p := ⟨gb313, 1, none⟩) (Kd.R_far (p := ⟨gb313, 0, none⟩) (Kd.R_far (p := ⟨gb314, 1, none⟩) (Kd.R_types (Kd.R_types HO317.out BK314.out (by decide)) BK313.out (by decide)) (fun _ hk => hk.1.2) (.slice Ao12 t315.length co12)) (fun _ hk => hk.2) (.int .i64 a0_0)) (fun _ hk => hk.2) (.slice Ao12 t315.length co12)) (fun _ hk => trivial), by exact bB⟩


/-! ### laws_eqIntS: function 19 -/
def laws_eqIntS.l0 : Nat → List Int → List Int → Int → Option (Bool)
 | 0, _, _, _ => none
 | k + 1, x0, x1, x5 => if x5 < (x0.length : Int) then (if 0 ≤ x5 then (if x5 < (x1.length : Int) then (if (rd x0 x5) = (rd x1 x5) then (laws_eqIntS.l0 k x0 x1 (wrap64 (x5 + 1))) else (some false)) else (none)) else (none)) else (some true)
def laws_eqIntS.f (k : Nat) (l0 : List Int) (l1 : List Int) : Option (Bool) := if (l0.length : Int) = (l1.length : Int) then (laws_eqIntS.l0 k l0 l1 0) else (some false)
theorem laws_eqIntS.mono_l : ∀ k, (∀ y0 y1 y2, LeO (laws_eqIntS.l0 k y0 y1 y2) (laws_eqIntS.l0 (k + 1) y0 y1 y2))
 | 0 => fun _ _ _ r h => by simp [laws_eqIntS.l0] at h
 | k + 1 => by
  have ih0 := laws_eqIntS.mono_l k
  ·intro y0 y1 y2
   unfold laws_eqIntS.l0
   exact lM
theorem laws_eqIntS.mono : ∀ a0 a1 k, LeO (laws_eqIntS.f k a0 a1) (laws_eqIntS.f (k + 1) a0 a1) := by
 intro a0 a1 k
 have ih0 := laws_eqIntS.mono_l k
 unfold laws_eqIntS.f
 exact lM
theorem laws_eqIntS.calls (k : Nat) (A0 : Option Addr) (c0 : Nat) (l0 : List Int) (A1 : Option Addr) (c1 : Nat) (l1 : List Int) (r : Bool) (w : World) (hr0 : Kd.C (Kd.int .i64) w A0 l0.length l0) (hc0 : l0.length ≤ c0) (hr1 : Kd.C (Kd.int .i64) w A1 l1.length l1) (hc1 : l1.length ≤ c1) (h : laws_eqIntS.f k l0 l1 = some r) :
  Calls Tryd.prog 19 #[.slice A0 l0.length c0, .slice A1 l1.length c1] w fun e w' => e = .returned (.bool r) ∧ Drawn0 w w' := by
 have HR0 := Aside0.mk hr0
 have HC0 := Aside0.mk hc0
 clear hr0 hc0
 have HR1 := Aside0.mk hr1
 have HC1 := Aside0.mk hc1
 clear hr1 hc1
 have H : (if (l0.length : Int) = (l1.length : Int) then (laws_eqIntS.l0 k l0 l1 0) else (some false)) = some r := h
 clear h
 by_cases c3 : (l0.length : Int) = (l1.length : Int)
 rotate_left
 ·rw [if_neg c3] at H
  have c3b0 : ((l0.length : Int) == (l1.length : Int)) = false := beq_eq_false_iff_ne.mpr c3
  have c3b1 : ((l0.length : Int) != (l1.length : Int)) = true := bne_iff_ne.mpr c3
  have c3b2 : (l0.length == l1.length) = false := by first | simpa using c3 | (simp at c3 ⊢;omega)
  obtain rfl := Option.some.inj H
  go_enter Tryd.func19, Tryd.ntmps19
  go_wp2
  repeat (go_quiet (fail);try go_wp2)
  go_ret
  exact ⟨eF, dR⟩
 rw [if_pos c3] at H
 have c3b0 : ((l0.length : Int) == (l1.length : Int)) = true := beq_iff_eq.mpr c3
 have c3b1 : ((l0.length : Int) != (l1.length : Int)) = false := bne_eq_false_iff_eq.mpr c3
 have c3b2 : (l0.length == l1.length) = true := by first | simpa using c3 | (simp at c3 ⊢;omega)
 clear c3
 have H' := Aside0.mk H
 clear H
 go_enter Tryd.func19, Tryd.ntmps19
 go_wp2
 repeat (go_quiet (fail);try go_wp2)
 go_loopg [5] k (fun kq v5 w' => ∃ (x5_1 : Int), v5 = .int .i64 x5_1 ∧ Aside0 (laws_eqIntS.l0 kq l0 l1 x5_1 = some r) ∧ Aside0 (kq ≤ k) ∧ Drawn0 w w')
 case atStart => exact ⟨(0), eF, H', ⟨Nat.le_refl _⟩, dR⟩
 case round =>
  clear H'
  try clear c1
  try clear p2
  try clear c3
  try clear c3b0
  try clear c3b1
  try clear c3b2
  obtain ⟨x5_1, rfl, HA, HK1, ⟨m1, rfl⟩⟩ := hrel
  cases gk with
  | zero => exact absurd HA.out (by simp [laws_eqIntS.l0])
  | succ k1 =>
   have H := HA.out
   clear HA
   simp only [laws_eqIntS.l0] at H
   by_cases c4 : x5_1 < (l0.length : Int)
   rotate_left
   ·rw [if_neg c4] at H
    have c4b0 : decide (x5_1 < (l0.length : Int)) = false := decide_eq_false c4
    clear c4
    obtain rfl := Option.some.inj H
    go_wp2
    repeat (go_quiet (fail);try go_wp2)
    go_ret
    exact ⟨eF, dR⟩
   rw [if_pos c4] at H
   have c4b0 : decide (x5_1 < (l0.length : Int)) = true := decide_eq_true c4
   clear c4
   by_cases c5 : 0 ≤ x5_1
   rotate_left
   ·rw [if_neg c5] at H
    exact absurd H (by simp)
   rw [if_pos c5] at H
   have c5b0 : decide (0 ≤ x5_1) = true := decide_eq_true c5
   clear c5
   by_cases c6 : x5_1 < (l1.length : Int)
   rotate_left
   ·rw [if_neg c6] at H
    exact absurd H (by simp)
   rw [if_pos c6] at H
   have c6b0 : decide (x5_1 < (l1.length : Int)) = true := decide_eq_true c6
   clear c6
   by_cases c7 : (rd l0 x5_1) = (rd l1 x5_1)
   rotate_left
   ·rw [if_neg c7] at H
    have c7b0 : ((rd l0 x5_1) == (rd l1 x5_1)) = false := beq_eq_false_iff_ne.mpr c7
    have c7b1 : ((rd l0 x5_1) != (rd l1 x5_1)) = true := bne_iff_ne.mpr c7
    obtain rfl := Option.some.inj H
    have p318 : 0 ≤ (x5_1 : Int) := oA
    have q318 : x5_1 < (l0.length : Int) := oA
    obtain ⟨ad318, e318, hx318_0⟩ := Kd.at_int HR0.out x5_1 p318 q318
    cases e318
    replace p318 := eq_true p318
    replace q318 := eq_true q318
    have p319 : 0 ≤ (x5_1 : Int) := oA
    have q319 : x5_1 < (l1.length : Int) := oA
    obtain ⟨ad319, e319, hx319_0⟩ := Kd.at_int HR1.out x5_1 p319 q319
    cases e319
    replace p319 := eq_true p319
    replace q319 := eq_true q319
    go_wp2
    repeat (go_quiet (fail);try go_wp2)
    go_ret
    exact ⟨eF, dR⟩
   rw [if_pos c7] at H
   have c7b0 : ((rd l0 x5_1) == (rd l1 x5_1)) = true := beq_iff_eq.mpr c7
   have c7b1 : ((rd l0 x5_1) != (rd l1 x5_1)) = false := bne_eq_false_iff_eq.mpr c7
   clear c7
   have H' := Aside0.mk H
   clear H
   have p318 : 0 ≤ (x5_1 : Int) := oA
   have q318 : x5_1 < (l0.length : Int) := oA
   obtain ⟨ad318, e318, hx318_0⟩ := Kd.at_int HR0.out x5_1 p318 q318
   cases e318
   replace p318 := eq_true p318
   replace q318 := eq_true q318
   have p319 : 0 ≤ (x5_1 : Int) := oA
   have q319 : x5_1 < (l1.length : Int) := oA
   obtain ⟨ad319, e319, hx319_0⟩ := Kd.at_int HR1.out x5_1 p319 q319
   cases e319
   replace p319 := eq_true p319
   replace q319 := eq_true q319
   go_wp2
   repeat (go_quiet (fail);try go_wp2)
   go_roundg k1
   case measure => have := HK1.out;omega
   case rel => exact ⟨(wrap64 (x5_1 + 1)), eF, H', ⟨by have := HK1.out;omega⟩, dR⟩


/-! ### laws_eqIntSS: function 11 -/
def laws_eqIntSS.l0 : Nat → List (List Int) → List (List Int) → Int → Option (Bool)
 | 0, _, _, _ => none
 | k + 1, x0, x1, x5 => if x5 < (x0.length : Int) then (if 0 ≤ x5 then (if x5 < (x1.length : Int) then ((laws_eqIntS.f k (rd_L2 x0 x5) (rd_L2 x1 x5)).bind fun t322 => (if t322 = true then (laws_eqIntSS.l0 k x0 x1 (wrap64 (x5 + 1))) else (some false))) else (none)) else (none)) else (some true)
def laws_eqIntSS.f (k : Nat) (l0 : List (List Int)) (l1 : List (List Int)) : Option (Bool) := if (l0.length : Int) = (l1.length : Int) then (laws_eqIntSS.l0 k l0 l1 0) else (some false)
theorem laws_eqIntSS.mono_l : ∀ k, (∀ y0 y1 y2, LeO (laws_eqIntSS.l0 k y0 y1 y2) (laws_eqIntSS.l0 (k + 1) y0 y1 y2))
 | 0 => fun _ _ _ r h => by simp [laws_eqIntSS.l0] at h
 | k + 1 => by
  have ih0 := laws_eqIntSS.mono_l k
  ·intro y0 y1 y2
   unfold laws_eqIntSS.l0
   have q0 := laws_eqIntS.mono
   exact lM
theorem laws_eqIntSS.mono : ∀ a0 a1 k, LeO (laws_eqIntSS.f k a0 a1) (laws_eqIntSS.f (k + 1) a0 a1) := by
 intro a0 a1 k
 have ih0 := laws_eqIntSS.mono_l k
 unfold laws_eqIntSS.f
 have q0 := laws_eqIntS.mono
 exact lM
theorem laws_eqIntSS.calls (k : Nat) (A0 : Option Addr) (c0 : Nat) (l0 : List (List Int)) (A1 : Option Addr) (c1 : Nat) (l1 : List (List Int)) (r : Bool) (w : World) (hr0 : Kd.C (Kd.slice 3 (Kd.int .i64)) w A0 l0.length l0) (hc0 : l0.length ≤ c0) (hr1 : Kd.C (Kd.slice 3 (Kd.int .i64)) w A1 l1.length l1) (hc1 : l1.length ≤ c1) (h : laws_eqIntSS.f k l0 l1 = some r) :
  Calls Tryd.prog 11 #[.slice A0 l0.length c0, .slice A1 l1.length c1] w fun e w' => e = .returned (.bool r) ∧ Drawn0 w w' := by
 have HR0 := Aside0.mk hr0
 have HC0 := Aside0.mk hc0
 clear hr0 hc0
 have HR1 := Aside0.mk hr1
 have HC1 := Aside0.mk hc1
 clear hr1 hc1
 have H : (if (l0.length : Int) = (l1.length : Int) then (laws_eqIntSS.l0 k l0 l1 0) else (some false)) = some r := h
 clear h
 by_cases c3 : (l0.length : Int) = (l1.length : Int)
 rotate_left
 ·rw [if_neg c3] at H
  have c3b0 : ((l0.length : Int) == (l1.length : Int)) = false := beq_eq_false_iff_ne.mpr c3
  have c3b1 : ((l0.length : Int) != (l1.length : Int)) = true := bne_iff_ne.mpr c3
  have c3b2 : (l0.length == l1.length) = false := by first | simpa using c3 | (simp at c3 ⊢;omega)
  obtain rfl := Option.some.inj H
  go_enter Tryd.func11, Tryd.ntmps11
  go_wp2
  repeat (go_quiet (fail);try go_wp2)
  go_ret
  exact ⟨eF, dR⟩
 rw [if_pos c3] at H
 have c3b0 : ((l0.length : Int) == (l1.length : Int)) = true := beq_iff_eq.mpr c3
 have c3b1 : ((l0.length : Int) != (l1.length : Int)) = false := bne_eq_false_iff_eq.mpr c3
 have c3b2 : (l0.length == l1.length) = true := by first | simpa using c3 | (simp at c3 ⊢;omega)
 clear c3
 have H' := Aside0.mk H
 clear H
 go_enter Tryd.func11, Tryd.ntmps11
 go_wp2
 repeat (go_quiet (fail);try go_wp2)
 go_loopg [5] k (fun kq v5 w' => ∃ (x5_1 : Int), v5 = .int .i64 x5_1 ∧ Aside0 (laws_eqIntSS.l0 kq l0 l1 x5_1 = some r) ∧ Aside0 (kq ≤ k) ∧ Drawn0 w w')
 case atStart => exact ⟨(0), eF, H', ⟨Nat.le_refl _⟩, dR⟩
 case round =>
  clear H'
  try clear c1
  try clear p2
  try clear c3
  try clear c3b0
  try clear c3b1
  try clear c3b2
  obtain ⟨x5_1, rfl, HA, HK1, ⟨m1, rfl⟩⟩ := hrel
  cases gk with
  | zero => exact absurd HA.out (by simp [laws_eqIntSS.l0])
  | succ k1 =>
   have H := HA.out
   clear HA
   simp only [laws_eqIntSS.l0] at H
   by_cases c4 : x5_1 < (l0.length : Int)
   rotate_left
   ·rw [if_neg c4] at H
    have c4b0 : decide (x5_1 < (l0.length : Int)) = false := decide_eq_false c4
    clear c4
    obtain rfl := Option.some.inj H
    go_wp2
    repeat (go_quiet (fail);try go_wp2)
    go_ret
    exact ⟨eF, dR⟩
   rw [if_pos c4] at H
   have c4b0 : decide (x5_1 < (l0.length : Int)) = true := decide_eq_true c4
   clear c4
   by_cases c5 : 0 ≤ x5_1
   rotate_left
   ·rw [if_neg c5] at H
    exact absurd H (by simp)
   rw [if_pos c5] at H
   have c5b0 : decide (0 ≤ x5_1) = true := decide_eq_true c5
   clear c5
   by_cases c6 : x5_1 < (l1.length : Int)
   rotate_left
   ·rw [if_neg c6] at H
    exact absurd H (by simp)
   rw [if_pos c6] at H
   have c6b0 : decide (x5_1 < (l1.length : Int)) = true := decide_eq_true c6
   clear c6
   replace H := Option.bind_eq_some_iff.mp H
   obtain ⟨t322, A70, H⟩ := H
   try dsimp only at H
   have A7 := Aside0.mk A70
   clear A70
   by_cases c8 : t322 = true
   rotate_left
   ·replace c8 := Bool.eq_false_iff.mpr c8
    subst c8
    rw [if_neg (show ¬ (false = true) by decide)] at H
    obtain rfl := Option.some.inj H
    have p320 : 0 ≤ (x5_1 : Int) := oA
    have q320 : x5_1 < (l0.length : Int) := oA
    obtain ⟨ad320, A320_0, c320_0, e320, hx320_0, hl320_0, hi320_0⟩ := at_L2 HR0.out x5_1 p320 q320
    cases e320
    have HR320_0 := Aside0.mk hi320_0
    have HC320_0 := Aside0.mk hl320_0
    clear hi320_0 hl320_0
    replace p320 := eq_true p320
    replace q320 := eq_true q320
    have p321 : 0 ≤ (x5_1 : Int) := oA
    have q321 : x5_1 < (l1.length : Int) := oA
    obtain ⟨ad321, A321_0, c321_0, e321, hx321_0, hl321_0, hi321_0⟩ := at_L2 HR1.out x5_1 p321 q321
    cases e321
    have HR321_0 := Aside0.mk hi321_0
    have HC321_0 := Aside0.mk hl321_0
    clear hi321_0 hl321_0
    replace p321 := eq_true p321
    replace q321 := eq_true q321
    go_wp2_with (first | (go_at_call 19;(with_reducible refine (laws_eqIntS.calls k1 _ _ (rd_L2 l0 x5_1) _ _ (rd_L2 l1 x5_1) false _ ?side1 ?side2 ?side3 ?side4 A7.out).mono ?_);(case side1 => exact cP HR320_0.out);(case side2 => exact HC320_0.out);(case side3 => exact cP HR321_0.out);(case side4 => exact HC321_0.out);rintro e w' ⟨rfl, ⟨nd, rfl⟩⟩;(try first | exact ⟨rfl, _, World.drewN_drewN _ _ _⟩ | exact ⟨rfl, _, Eq.trans (World.drewN_drewN _ _ _) (congrArg (World.drewN _) (Nat.add_assoc _ _ _))⟩)))
    repeat (go_quiet (first | (go_at_call 19;(with_reducible refine (laws_eqIntS.calls k1 _ _ (rd_L2 l0 x5_1) _ _ (rd_L2 l1 x5_1) false _ ?side1 ?side2 ?side3 ?side4 A7.out).mono ?_);(case side1 => exact cP HR320_0.out);(case side2 => exact HC320_0.out);(case side3 => exact cP HR321_0.out);(case side4 => exact HC321_0.out);rintro e w' ⟨rfl, ⟨nd, rfl⟩⟩;(try first | exact ⟨rfl, _, World.drewN_drewN _ _ _⟩ | exact ⟨rfl, _, Eq.trans (World.drewN_drewN _ _ _) (congrArg (World.drewN _) (Nat.add_assoc _ _ _))⟩)));try go_wp2_with (first | (go_at_call 19;(with_reducible refine (laws_eqIntS.calls k1 _ _ (rd_L2 l0 x5_1) _ _ (rd_L2 l1 x5_1) false _ ?side1 ?side2 ?side3 ?side4 A7.out).mono ?_);(case side1 => exact cP HR320_0.out);(case side2 => exact HC320_0.out);(case side3 => exact cP HR321_0.out);(case side4 => exact HC321_0.out);rintro e w' ⟨rfl, ⟨nd, rfl⟩⟩;(try first | exact ⟨rfl, _, World.drewN_drewN _ _ _⟩ | exact ⟨rfl, _, Eq.trans (World.drewN_drewN _ _ _) (congrArg (World.drewN _) (Nat.add_assoc _ _ _))⟩))))
    go_ret
    exact ⟨eF, dR⟩
   subst c8
   rw [if_pos rfl] at H
   have H' := Aside0.mk H
   clear H
   have p320 : 0 ≤ (x5_1 : Int) := oA
   have q320 : x5_1 < (l0.length : Int) := oA
   obtain ⟨ad320, A320_0, c320_0, e320, hx320_0, hl320_0, hi320_0⟩ := at_L2 HR0.out x5_1 p320 q320
   cases e320
   have HR320_0 := Aside0.mk hi320_0
   have HC320_0 := Aside0.mk hl320_0
   clear hi320_0 hl320_0
   replace p320 := eq_true p320
   replace q320 := eq_true q320
   have p321 : 0 ≤ (x5_1 : Int) := oA
   have q321 : x5_1 < (l1.length : Int) := oA
   obtain ⟨ad321, A321_0, c321_0, e321, hx321_0, hl321_0, hi321_0⟩ := at_L2 HR1.out x5_1 p321 q321
   cases e321
   have HR321_0 := Aside0.mk hi321_0
   have HC321_0 := Aside0.mk hl321_0
   clear hi321_0 hl321_0
   replace p321 := eq_true p321
   replace q321 := eq_true q321
   go_wp2_with (first | (go_at_call 19;(with_reducible refine (laws_eqIntS.calls k1 _ _ (rd_L2 l0 x5_1) _ _ (rd_L2 l1 x5_1) true _ ?side1 ?side2 ?side3 ?side4 A7.out).mono ?_);(case side1 => exact cP HR320_0.out);(case side2 => exact HC320_0.out);(case side3 => exact cP HR321_0.out);(case side4 => exact HC321_0.out);rintro e w' ⟨rfl, ⟨nd, rfl⟩⟩;(try first | exact ⟨rfl, _, World.drewN_drewN _ _ _⟩ | exact ⟨rfl, _, Eq.trans (World.drewN_drewN _ _ _) (congrArg (World.drewN _) (Nat.add_assoc _ _ _))⟩)))
   repeat (go_quiet (first | (go_at_call 19;(with_reducible refine (laws_eqIntS.calls k1 _ _ (rd_L2 l0 x5_1) _ _ (rd_L2 l1 x5_1) true _ ?side1 ?side2 ?side3 ?side4 A7.out).mono ?_);(case side1 => exact cP HR320_0.out);(case side2 => exact HC320_0.out);(case side3 => exact cP HR321_0.out);(case side4 => exact HC321_0.out);rintro e w' ⟨rfl, ⟨nd, rfl⟩⟩;(try first | exact ⟨rfl, _, World.drewN_drewN _ _ _⟩ | exact ⟨rfl, _, Eq.trans (World.drewN_drewN _ _ _) (congrArg (World.drewN _) (Nat.add_assoc _ _ _))⟩)));try go_wp2_with (first | (go_at_call 19;(with_reducible refine (laws_eqIntS.calls k1 _ _ (rd_L2 l0 x5_1) _ _ (rd_L2 l1 x5_1) true _ ?side1 ?side2 ?side3 ?side4 A7.out).mono ?_);(case side1 => exact cP HR320_0.out);(case side2 => exact HC320_0.out);(case side3 => exact cP HR321_0.out);(case side4 => exact HC321_0.out);rintro e w' ⟨rfl, ⟨nd, rfl⟩⟩;(try first | exact ⟨rfl, _, World.drewN_drewN _ _ _⟩ | exact ⟨rfl, _, Eq.trans (World.drewN_drewN _ _ _) (congrArg (World.drewN _) (Nat.add_assoc _ _ _))⟩))))
   go_roundg k1
   case measure => have := HK1.out;omega
   case rel => exact ⟨(wrap64 (x5_1 + 1)), eF, H', ⟨by have := HK1.out;omega⟩, dR⟩


/-! ### laws_eqIntA2: by hand -/
def laws_eqIntA2.f (a0_0 : Int) (a0_1 : Int) (a1_0 : Int) (a1_1 : Int) : Option Bool := some (decide (a0_0 = a1_0 ∧ a0_1 = a1_1))
theorem laws_eqIntA2.calls (a0_0 : Int) (a0_1 : Int) (a1_0 : Int) (a1_1 : Int) (r : Bool) (w : World) (h : laws_eqIntA2.f a0_0 a0_1 a1_0 a1_1 = some r) :
  Calls Tryd.prog 67 #[.agg #[.int .i64 a0_0, .int .i64 a0_1], .agg #[.int .i64 a1_0, .int .i64 a1_1]] w fun e w' => e = .returned (.bool r) ∧ Below w.heap.size w w' := by
 obtain rfl := Option.some.inj h
 clear h
 go_enter Tryd.func67, Tryd.ntmps67
 go_wp2
 refine wp_loop_rounds 3 ?_
 rw [rounds_succ]
 by_cases h0 : a0_0 = a1_0
 ·subst h0
  have e0 : (a0_0 == a0_0) = true := by simp
  have e0' : (a0_0 != a0_0) = false := by simp
  go_wp2;repeat (go_quiet (fail);try go_wp2)
  rw [rounds_succ]
  by_cases h1 : a0_1 = a1_1
  ·subst h1
   have e1 : (a0_1 == a0_1) = true := by simp
   have e1' : (a0_1 != a0_1) = false := by simp
   go_wp2;repeat (go_quiet (fail);try go_wp2)
   rw [rounds_succ]
   go_wp2;repeat (go_quiet (fail);try go_wp2)
   go_ret
   exact ⟨by simp, by repeat (first | exact Below.refl _ _ | apply below_alloc | apply pw_below_drewN | apply below_drew | refine below_set ?_ (by simp))⟩
  ·have e1 : (a0_1 == a1_1) = false := by simpa using h1
   have e1' : (a0_1 != a1_1) = true := by simpa using h1
   go_wp2;repeat (go_quiet (fail);try go_wp2)
   go_ret
   exact ⟨by simp [h1], by repeat (first | exact Below.refl _ _ | apply below_alloc | apply pw_below_drewN | apply below_drew | refine below_set ?_ (by simp))⟩
 ·have e0 : (a0_0 == a1_0) = false := by simpa using h0
  have e0' : (a0_0 != a1_0) = true := by simpa using h0
  go_wp2;repeat (go_quiet (fail);try go_wp2)
  go_ret
  exact ⟨by simp [h0], by repeat (first | exact Below.refl _ _ | apply below_alloc | apply pw_below_drewN | apply below_drew | refine below_set ?_ (by simp))⟩

/-! ### laws_eqIntA2S: function 35 -/
def laws_eqIntA2S.l0 : Nat → List (S78) → List (S78) → Int → Option (Bool)
 | 0, _, _, _ => none
 | k + 1, x0, x1, x5 => if x5 < (x0.length : Int) then (if 0 ≤ x5 then (if x5 < (x1.length : Int) then ((laws_eqIntA2.f ((rd_T78 x0 x5).f0) ((rd_T78 x0 x5).f1) ((rd_T78 x1 x5).f0) ((rd_T78 x1 x5).f1)).bind fun t327 => (if t327 = true then (laws_eqIntA2S.l0 k x0 x1 (wrap64 (x5 + 1))) else (some false))) else (none)) else (none)) else (some true)
def laws_eqIntA2S.f (k : Nat) (l0 : List (S78)) (l1 : List (S78)) : Option (Bool) := if (l0.length : Int) = (l1.length : Int) then (laws_eqIntA2S.l0 k l0 l1 0) else (some false)
theorem laws_eqIntA2S.mono_l : ∀ k, (∀ y0 y1 y2, LeO (laws_eqIntA2S.l0 k y0 y1 y2) (laws_eqIntA2S.l0 (k + 1) y0 y1 y2))
 | 0 => fun _ _ _ r h => by simp [laws_eqIntA2S.l0] at h
 | k + 1 => by
  have ih0 := laws_eqIntA2S.mono_l k
  ·intro y0 y1 y2
   unfold laws_eqIntA2S.l0
   exact lM
theorem laws_eqIntA2S.mono : ∀ a0 a1 k, LeO (laws_eqIntA2S.f k a0 a1) (laws_eqIntA2S.f (k + 1) a0 a1) := by
 intro a0 a1 k
 have ih0 := laws_eqIntA2S.mono_l k
 unfold laws_eqIntA2S.f
 exact lM
def laws_eqIntA2S.T6 : Bool × List (List Nat × List Nat) := (true, [([], []), ([], []), ([0, 1], [0, 1]), ([2], [2]), ([], []), ([], []), ([4, 5], [4, 5]), ([6], [6]), ([3, 7], [3, 7]), ([8], [8])])
def laws_eqIntA2S.B6 : List Nat := [0, 0, 3, 7, 0, 0, 48, 112, 255, 511]
theorem laws_eqIntA2S.tab6 : rtab .any (opsOf Tryd.f35 6) = laws_eqIntA2S.T6 := by kernel_rfl
theorem laws_eqIntA2S.bits6 : waitsOk laws_eqIntA2S.T6.2 laws_eqIntA2S.B6 = true := by kernel_rfl
theorem laws_eqIntA2S.calls (k : Nat) (A0 : Option Addr) (c0 : Nat) (l0 : List (S78)) (A1 : Option Addr) (c1 : Nat) (l1 : List (S78)) (r : Bool) (w : World) (hr0 : Kd.C k78 w A0 l0.length l0) (hc0 : l0.length ≤ c0) (hr1 : Kd.C k78 w A1 l1.length l1) (hc1 : l1.length ≤ c1) (h : laws_eqIntA2S.f k l0 l1 = some r) :
  Calls Tryd.prog 35 #[.slice A0 l0.length c0, .slice A1 l1.length c1] w fun e w' => e = .returned (.bool r) ∧ Below w.heap.size w w' := by
 have hu78 := Tryd.underlying78
 have HR0 := Aside0.mk hr0
 have HC0 := Aside0.mk hc0
 clear hr0 hc0
 have HR1 := Aside0.mk hr1
 have HC1 := Aside0.mk hc1
 clear hr1 hc1
 have HB := aM (Below.refl w.heap.size w)
 have H : (if (l0.length : Int) = (l1.length : Int) then (laws_eqIntA2S.l0 k l0 l1 0) else (some false)) = some r := h
 clear h
 by_cases c3 : (l0.length : Int) = (l1.length : Int)
 rotate_left
 ·rw [if_neg c3] at H
  have c3b0 : ((l0.length : Int) == (l1.length : Int)) = false := beq_eq_false_iff_ne.mpr c3
  have c3b1 : ((l0.length : Int) != (l1.length : Int)) = true := bne_iff_ne.mpr c3
  have c3b2 : (l0.length == l1.length) = false := by first | simpa using c3 | (simp at c3 ⊢;omega)
  obtain rfl := Option.some.inj H
  go_enter Tryd.func35, Tryd.ntmps35
  go_wp2
  go_ret
  exact ⟨eW, by exact bB⟩
 rw [if_pos c3] at H
 have c3b0 : ((l0.length : Int) == (l1.length : Int)) = true := beq_iff_eq.mpr c3
 have c3b1 : ((l0.length : Int) != (l1.length : Int)) = false := bne_eq_false_iff_eq.mpr c3
 have c3b2 : (l0.length == l1.length) = true := by first | simpa using c3 | (simp at c3 ⊢;omega)
 clear c3
 have H' := Aside0.mk H
 clear H
 go_enter Tryd.func35, Tryd.ntmps35
 go_wp2
 go_loopg [5] k (fun kq v5 w' => ∃ (x5_1 : Int), v5 = .int .i64 x5_1 ∧ Aside0 (laws_eqIntA2S.l0 kq l0 l1 x5_1 = some r) ∧ Aside0 (kq ≤ k) ∧ Aside0 (Below w.heap.size w w'))
 case atStart => exact ⟨(0), eF, H', ⟨Nat.le_refl _⟩, ⟨by exact bB⟩⟩
 case round =>
  clear H'
  try clear c1
  try clear p2
  try clear c3
  try clear c3b0
  try clear c3b1
  try clear c3b2
  obtain ⟨x5_1, rfl, HA, HK1, HB⟩ := hrel
  cases gk with
  | zero => exact absurd HA.out (by simp [laws_eqIntA2S.l0])
  | succ k1 =>
   have H := HA.out
   clear HA
   simp only [laws_eqIntA2S.l0] at H
   by_cases c4 : x5_1 < (l0.length : Int)
   rotate_left
   ·rw [if_neg c4] at H
    have c4b0 : decide (x5_1 < (l0.length : Int)) = false := decide_eq_false c4
    clear c4
    obtain rfl := Option.some.inj H
    go_wp2
    go_ret
    exact ⟨eW, by exact bB⟩
   rw [if_pos c4] at H
   have c4b0 : decide (x5_1 < (l0.length : Int)) = true := decide_eq_true c4
   clear c4
   by_cases c5 : 0 ≤ x5_1
   rotate_left
   ·rw [if_neg c5] at H
    exact absurd H (by simp)
   rw [if_pos c5] at H
   have c5b0 : decide (0 ≤ x5_1) = true := decide_eq_true c5
   clear c5
   by_cases c6 : x5_1 < (l1.length : Int)
   rotate_left
   ·rw [if_neg c6] at H
    exact absurd H (by simp)
   rw [if_pos c6] at H
   have c6b0 : decide (x5_1 < (l1.length : Int)) = true := decide_eq_true c6
   clear c6
   replace H := Option.bind_eq_some_iff.mp H
   obtain ⟨t327, A70, H⟩ := H
   try dsimp only at H
   have A7 := Aside0.mk A70
   clear A70
   by_cases c8 : t327 = true
   rotate_left
   ·replace c8 := Bool.eq_false_iff.mpr c8
    subst c8
    rw [if_neg (show ¬ (false = true) by decide)] at H
    obtain rfl := Option.some.inj H
    try go_wp2
    have n0_ := aM (below_drew1 HB.out)
    clear HB
    have HB := n0_
    clear n0_
    have p325 : 0 ≤ (x5_1 : Int) := oA
    have q325 : x5_1 < (l0.length : Int) := oA
    obtain ⟨ad325, e325, hx325_0, hx325_1⟩ := at_T78 HR0.out x5_1 p325 q325
    have hw325_1 := hx325_1
    have hw325_0 := hx325_0
    cases e325
    replace hx325_0 := (HB.out.cell (World.block_lt_of_cell? w _ hx325_0)).trans hx325_0
    replace hx325_1 := (HB.out.cell (World.block_lt_of_cell? w _ hx325_1)).trans hx325_1
    replace p325 := eq_true p325
    replace q325 := eq_true q325
    have p326 : 0 ≤ (x5_1 : Int) := oA
    have q326 : x5_1 < (l1.length : Int) := oA
    obtain ⟨ad326, e326, hx326_0, hx326_1⟩ := at_T78 HR1.out x5_1 p326 q326
    have hw326_1 := hx326_1
    have hw326_0 := hx326_0
    cases e326
    replace hx326_0 := (HB.out.cell (World.block_lt_of_cell? w _ hx326_0)).trans hx326_0
    replace hx326_1 := (HB.out.cell (World.block_lt_of_cell? w _ hx326_1)).trans hx326_1
    replace p326 := eq_true p326
    replace q326 := eq_true q326
    refine start_ (n := 10) (S := fun w' => w'.cell? (ad325.add ((x5_1).toNat * 2)) = some (.int .i64 ((rd_T78 l0 x5_1).f0)) ∧ w'.cell? ⟨(ad325.add ((x5_1).toNat * 2)).block, (ad325.add ((x5_1).toNat * 2)).off + 1, none⟩ = some (.int .i64 ((rd_T78 l0 x5_1).f1)) ∧ w'.cell? (ad326.add ((x5_1).toNat * 2)) = some (.int .i64 ((rd_T78 l1 x5_1).f0)) ∧ w'.cell? ⟨(ad326.add ((x5_1).toNat * 2)).block, (ad326.add ((x5_1).toNat * 2)).off + 1, none⟩ = some (.int .i64 ((rd_T78 l1 x5_1).f1))) (ds := []) (pT 0 10) (by kernel_rfl) rfl rfl ⟨((HB.out.cell (World.block_lt_of_cell? w _ hw325_0)).trans hw325_0), ((HB.out.cell (World.block_lt_of_cell? w _ hw325_1)).trans hw325_1), ((HB.out.cell (World.block_lt_of_cell? w _ hw326_0)).trans hw326_0), ((HB.out.cell (World.block_lt_of_cell? w _ hw326_1)).trans hw326_1)⟩ (fun hHeld => ?_);refine with_tabW laws_eqIntA2S.tab6 laws_eqIntA2S.bits6 (fun HT_ HW_ => ?_)
    generalize wr.drew = w11 at HB hx325_0 hx325_1 hx326_0 hx326_1 hHeld ⊢
    refine pure_ (i := 0) (N := some 17) (v := ?_) (a' := ?_) (pT 1 9) rfl rfl (any_of HT_.out (by kernel_rfl)) (fun _ _ _ h => h) (Or.inl ⟨by rfl, ?_⟩) ?_ ?_
    rotate_left
    ·intro w'
     go_simp
     with_reducible rfl
    rotate_left
    ·exact aP
    refine pure_ (i := 1) (N := some 18) (v := ?_) (a' := ?_) (pT 2 8) rfl rfl (any_of HT_.out (by kernel_rfl)) (fun _ _ _ h => h) (Or.inl ⟨by rfl, ?_⟩) ?_ ?_
    rotate_left
    ·intro w'
     go_simp
     with_reducible rfl
    rotate_left
    ·exact aP
    refine pure_ (i := 2) (N := some 19) (v := ?_) (a' := ?_) (pT 3 7) rfl rfl (any_of HT_.out (by kernel_rfl)) (fun _ _ _ h => h) (Or.inl ⟨by rfl, ?_⟩) ?_ ?_
    rotate_left
    ·intro w'
     go_simp
     with_reducible rfl
    rotate_left
    ·exact aP
    refine pure_ (i := 4) (N := some 21) (v := ?_) (a' := ?_) #[true,true,true,false,true,false,false,false,false,false] rfl rfl (any_of HT_.out (by kernel_rfl)) (fun _ _ _ h => h) (Or.inl ⟨by rfl, ?_⟩) ?_ ?_
    rotate_left
    ·intro w'
     go_simp
     with_reducible rfl
    rotate_left
    ·exact aP
    refine pure_ (i := 5) (N := some 22) (v := ?_) (a' := ?_) #[true,true,true,false,true,true,false,false,false,false] rfl rfl (any_of HT_.out (by kernel_rfl)) (fun _ _ _ h => h) (Or.inl ⟨by rfl, ?_⟩) ?_ ?_
    rotate_left
    ·intro w'
     go_simp
     with_reducible rfl
    rotate_left
    ·exact aP
    refine pure_ (i := 6) (N := some 23) (v := ?_) (a' := ?_) #[true,true,true,false,true,true,true,false,false,false] rfl rfl (any_of HT_.out (by kernel_rfl)) (fun _ _ _ h => h) (Or.inl ⟨by rfl, ?_⟩) ?_ ?_
    rotate_left
    ·intro w'
     go_simp
     with_reducible rfl
    rotate_left
    ·exact aP
    refine take_ (i := 3) (N := some 20) (v := ?_) (a' := ?_) (pT 7 3) rfl rfl (take_ofW HT_.out HW_.out (by kernel_rfl)) (fun _ _ _ h => h) (Or.inl ⟨by rfl, ?_⟩) hHeld ?_ ?_
    rotate_left
    ·rintro w' ⟨s0, s1, s2, s3⟩
     go_simp
     with_reducible rfl
    rotate_left
    ·exact aP
    refine take_ (i := 7) (N := some 24) (v := ?_) (a' := ?_) (pT 8 2) rfl rfl (take_ofW HT_.out HW_.out (by kernel_rfl)) (fun _ _ _ h => h) (Or.inl ⟨by rfl, ?_⟩) hHeld ?_ ?_
    rotate_left
    ·rintro w' ⟨s0, s1, s2, s3⟩
     go_simp
     with_reducible rfl
    rotate_left
    ·exact aP
    refine one_ (i := 8) (N := some 25) (pT 9 1) rfl rfl (one_of HT_.out (by kernel_rfl)) (by decide) (fun K hK => ?_)
    refine goes_ Tryd.func67 (by kernel_rfl) rfl #[.agg #[.int .i64 ((rd_T78 l0 x5_1).f0), .int .i64 ((rd_T78 l0 x5_1).f1)], .agg #[.int .i64 ((rd_T78 l1 x5_1).f0), .int .i64 ((rd_T78 l1 x5_1).f1)]] (by rfl) rfl rfl mM ?_
    with_reducible refine (laws_eqIntA2.calls ((rd_T78 l0 x5_1).f0) ((rd_T78 l0 x5_1).f1) ((rd_T78 l1 x5_1).f0) ((rd_T78 l1 x5_1).f1) false _ A7.out).mono ?_
    rintro e w12 ⟨rfl, hb⟩
    refine ⟨_, rfl, ?_⟩
    have n0_ := aM (below_step (by exact bB) hb)
    clear HB
    have HB := n0_
    clear n0_
    (try clear hb)
    (try clear hb2)
    (try clear hk)
    (try clear hi)
    refine hK.out _ _ ⟨((HB.out.cell (World.block_lt_of_cell? w _ hw325_0)).trans hw325_0), ((HB.out.cell (World.block_lt_of_cell? w _ hw325_1)).trans hw325_1), ((HB.out.cell (World.block_lt_of_cell? w _ hw326_0)).trans hw326_0), ((HB.out.cell (World.block_lt_of_cell? w _ hw326_1)).trans hw326_1)⟩ (fun hHeld => ?_)
    clear hK K
    refine norm_ (a' := ?_) ?_ ?_
    rotate_left
    ·show Act.put _ (some 25) _ = _
     simp only [Act.put, List.setIfInBounds_toArray, List.set_cons_zero, List.set_cons_succ, i64_w, i32_w]
     rfl
    refine pure_ (i := 9) (N := some 26) (v := ?_) (a' := ?_) (pT 10 0) rfl rfl (any_of HT_.out (by kernel_rfl)) (fun _ _ _ h => h) (Or.inl ⟨by rfl, ?_⟩) ?_ ?_
    rotate_left
    ·intro w'
     go_simp
     with_reducible rfl
    rotate_left
    ·exact aP
    refine done_ (done_of HT_.out (by kernel_rfl)) ?_
    try go_wp2
    go_ret
    exact ⟨eW, by exact bB⟩
   subst c8
   rw [if_pos rfl] at H
   have H' := Aside0.mk H
   clear H
   try go_wp2
   have n0_ := aM (below_drew1 HB.out)
   clear HB
   have HB := n0_
   clear n0_
   have p325 : 0 ≤ (x5_1 : Int) := oA
   have q325 : x5_1 < (l0.length : Int) := oA
   obtain ⟨ad325, e325, hx325_0, hx325_1⟩ := at_T78 HR0.out x5_1 p325 q325
   have hw325_1 := hx325_1
   have hw325_0 := hx325_0
   cases e325
   replace hx325_0 := (HB.out.cell (World.block_lt_of_cell? w _ hx325_0)).trans hx325_0
   replace hx325_1 := (HB.out.cell (World.block_lt_of_cell? w _ hx325_1)).trans hx325_1
   replace p325 := eq_true p325
   replace q325 := eq_true q325
   have p326 : 0 ≤ (x5_1 : Int) := oA
   have q326 : x5_1 < (l1.length : Int) := oA
   obtain ⟨ad326, e326, hx326_0, hx326_1⟩ := at_T78 HR1.out x5_1 p326 q326
   have hw326_1 := hx326_1
   have hw326_0 := hx326_0
   cases e326
   replace hx326_0 := (HB.out.cell (World.block_lt_of_cell? w _ hx326_0)).trans hx326_0
   replace hx326_1 := (HB.out.cell (World.block_lt_of_cell? w _ hx326_1)).trans hx326_1
   replace p326 := eq_true p326
   replace q326 := eq_true q326
   refine start_ (n := 10) (S := fun w' => w'.cell? (ad325.add ((x5_1).toNat * 2)) = some (.int .i64 ((rd_T78 l0 x5_1).f0)) ∧ w'.cell? ⟨(ad325.add ((x5_1).toNat * 2)).block, (ad325.add ((x5_1).toNat * 2)).off + 1, none⟩ = some (.int .i64 ((rd_T78 l0 x5_1).f1)) ∧ w'.cell? (ad326.add ((x5_1).toNat * 2)) = some (.int .i64 ((rd_T78 l1 x5_1).f0)) ∧ w'.cell? ⟨(ad326.add ((x5_1).toNat * 2)).block, (ad326.add ((x5_1).toNat * 2)).off + 1, none⟩ = some (.int .i64 ((rd_T78 l1 x5_1).f1))) (ds := []) (pT 0 10) (by kernel_rfl) rfl rfl ⟨((HB.out.cell (World.block_lt_of_cell? w _ hw325_0)).trans hw325_0), ((HB.out.cell (World.block_lt_of_cell? w _ hw325_1)).trans hw325_1), ((HB.out.cell (World.block_lt_of_cell? w _ hw326_0)).trans hw326_0), ((HB.out.cell (World.block_lt_of_cell? w _ hw326_1)).trans hw326_1)⟩ (fun hHeld => ?_);refine with_tabW laws_eqIntA2S.tab6 laws_eqIntA2S.bits6 (fun HT_ HW_ => ?_)
   generalize wr.drew = w9 at HB hx325_0 hx325_1 hx326_0 hx326_1 hHeld ⊢
   refine pure_ (i := 0) (N := some 17) (v := ?_) (a' := ?_) (pT 1 9) rfl rfl (any_of HT_.out (by kernel_rfl)) (fun _ _ _ h => h) (Or.inl ⟨by rfl, ?_⟩) ?_ ?_
   rotate_left
   ·intro w'
    go_simp
    with_reducible rfl
   rotate_left
   ·exact aP
   refine pure_ (i := 1) (N := some 18) (v := ?_) (a' := ?_) (pT 2 8) rfl rfl (any_of HT_.out (by kernel_rfl)) (fun _ _ _ h => h) (Or.inl ⟨by rfl, ?_⟩) ?_ ?_
   rotate_left
   ·intro w'
    go_simp
    with_reducible rfl
   rotate_left
   ·exact aP
   refine pure_ (i := 2) (N := some 19) (v := ?_) (a' := ?_) (pT 3 7) rfl rfl (any_of HT_.out (by kernel_rfl)) (fun _ _ _ h => h) (Or.inl ⟨by rfl, ?_⟩) ?_ ?_
   rotate_left
   ·intro w'
    go_simp
    with_reducible rfl
   rotate_left
   ·exact aP
   refine pure_ (i := 4) (N := some 21) (v := ?_) (a' := ?_) #[true,true,true,false,true,false,false,false,false,false] rfl rfl (any_of HT_.out (by kernel_rfl)) (fun _ _ _ h => h) (Or.inl ⟨by rfl, ?_⟩) ?_ ?_
   rotate_left
   ·intro w'
    go_simp
    with_reducible rfl
   rotate_left
   ·exact aP
   refine pure_ (i := 5) (N := some 22) (v := ?_) (a' := ?_) #[true,true,true,false,true,true,false,false,false,false] rfl rfl (any_of HT_.out (by kernel_rfl)) (fun _ _ _ h => h) (Or.inl ⟨by rfl, ?_⟩) ?_ ?_
   rotate_left
   ·intro w'
    go_simp
    with_reducible rfl
   rotate_left
   ·exact aP
   refine pure_ (i := 6) (N := some 23) (v := ?_) (a' := ?_) #[true,true,true,false,true,true,true,false,false,false] rfl rfl (any_of HT_.out (by kernel_rfl)) (fun _ _ _ h => h) (Or.inl ⟨by rfl, ?_⟩) ?_ ?_
   rotate_left
   ·intro w'
    go_simp
    with_reducible rfl
   rotate_left
   ·exact aP
   refine take_ (i := 3) (N := some 20) (v := ?_) (a' := ?_) (pT 7 3) rfl rfl (take_ofW HT_.out HW_.out (by kernel_rfl)) (fun _ _ _ h => h) (Or.inl ⟨by rfl, ?_⟩) hHeld ?_ ?_
   rotate_left
   ·rintro w' ⟨s0, s1, s2, s3⟩
    go_simp
    with_reducible rfl
   rotate_left
   ·exact aP
   refine take_ (i := 7) (N := some 24) (v := ?_) (a' := ?_) (pT 8 2) rfl rfl (take_ofW HT_.out HW_.out (by kernel_rfl)) (fun _ _ _ h => h) (Or.inl ⟨by rfl, ?_⟩) hHeld ?_ ?_
   rotate_left
   ·rintro w' ⟨s0, s1, s2, s3⟩
    go_simp
    with_reducible rfl
   rotate_left
   ·exact aP
   refine one_ (i := 8) (N := some 25) (pT 9 1) rfl rfl (one_of HT_.out (by kernel_rfl)) (by decide) (fun K hK => ?_)
   refine goes_ Tryd.func67 (by kernel_rfl) rfl #[.agg #[.int .i64 ((rd_T78 l0 x5_1).f0), .int .i64 ((rd_T78 l0 x5_1).f1)], .agg #[.int .i64 ((rd_T78 l1 x5_1).f0), .int .i64 ((rd_T78 l1 x5_1).f1)]] (by rfl) rfl rfl mM ?_
   with_reducible refine (laws_eqIntA2.calls ((rd_T78 l0 x5_1).f0) ((rd_T78 l0 x5_1).f1) ((rd_T78 l1 x5_1).f0) ((rd_T78 l1 x5_1).f1) true _ A7.out).mono ?_
   rintro e w10 ⟨rfl, hb⟩
   refine ⟨_, rfl, ?_⟩
   have n0_ := aM (below_step (by exact bB) hb)
   clear HB
   have HB := n0_
   clear n0_
   (try clear hb)
   (try clear hb2)
   (try clear hk)
   (try clear hi)
   refine hK.out _ _ ⟨((HB.out.cell (World.block_lt_of_cell? w _ hw325_0)).trans hw325_0), ((HB.out.cell (World.block_lt_of_cell? w _ hw325_1)).trans hw325_1), ((HB.out.cell (World.block_lt_of_cell? w _ hw326_0)).trans hw326_0), ((HB.out.cell (World.block_lt_of_cell? w _ hw326_1)).trans hw326_1)⟩ (fun hHeld => ?_)
   clear hK K
   refine norm_ (a' := ?_) ?_ ?_
   rotate_left
   ·show Act.put _ (some 25) _ = _
    simp only [Act.put, List.setIfInBounds_toArray, List.set_cons_zero, List.set_cons_succ, i64_w, i32_w]
    rfl
   refine pure_ (i := 9) (N := some 26) (v := ?_) (a' := ?_) (pT 10 0) rfl rfl (any_of HT_.out (by kernel_rfl)) (fun _ _ _ h => h) (Or.inl ⟨by rfl, ?_⟩) ?_ ?_
   rotate_left
   ·intro w'
    go_simp
    with_reducible rfl
   rotate_left
   ·exact aP
   refine done_ (done_of HT_.out (by kernel_rfl)) ?_
   try go_wp2
   go_roundg k1
   case measure => have := HK1.out;omega
   case rel => exact ⟨(wrap64 (x5_1 + 1)), eF, H', ⟨by have := HK1.out;omega⟩, ⟨by exact bB⟩⟩


end Go.Proofs.YtgahlimikndecaaDoor.QEternalFamily
