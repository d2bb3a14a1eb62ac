import Derived.Test.YtmokkhfmbenleaaQSavedSum0
import Derived.Test.YtmokkhfmbenleaaQSavedSum3
import Derived.Test.YtmokkhfmbenleaaQSavedSum8
import Derived.Test.YtmokkhfmbenleaaQSavedSum9
import Derived.Test.YtmokkhfmbenleaaQSavedSum10
import Derived.Test.YtmokkhfmbenleaaQSavedSum11
namespace Go.Proofs.Ytmokkhfmbenleaa.QSavedSum
open Go.RowKit Go.Proofs.YtmokkhfmbenleaaW.PrintWords Go.Proofs.YtmokkhfmbenleaaW.PrintLast Go.Proofs.YtmokkhfmbenleaaW.PrintMore
attribute [local go_sem] max2_int min2_int max_two min_two max_three min_three max_four min_four   -- for this text's walks alone
set_option linter.unusedVariables false
set_option linter.unusedSimpArgs false
/-! ### impl_MostSaved: function 33 -/
def impl_MostSaved.f (k : Nat) (a0_0 : Int) (l0_1 : List (S119)) (a1 : Int) (a2 : Int) : Option (Int × Bool) := (impl_isFire.f k a0_0 l0_1 a1 a2).bind fun t734 => (if t734 = true then ((impl_netOf.f a0_0 l0_1).bind fun t735 => (if 0 ≤ a1 then ((impl_net_fightFire.f k t735 (shl .i64 1 a1) 0 a2).bind fun bt738 => (some (bt738.1, true))) else (none))) else (some (0, false)))
theorem impl_MostSaved.mono : ∀ a0 a1 a2 a3 k, LeO (impl_MostSaved.f k a0 a1 a2 a3) (impl_MostSaved.f (k + 1) a0 a1 a2 a3) := by
 intro a0 a1 a2 a3 k
 unfold impl_MostSaved.f
 repeat' first
   | (with_reducible exact impl_isFire.mono _ _ _ _ _)
   | (with_reducible exact impl_net_fightFire.mono _ _ _ _ _)
   | (with_reducible exact LeO.refl _)
   | (with_reducible exact LeO.none _)
   | (with_reducible refine LeO.ite ?_ ?_)
   | (with_reducible refine LeO.bind ?_ (fun _ => ?_))
   | exact impl_isFire.mono _ _ _ _ _
   | exact impl_net_fightFire.mono _ _ _ _ _
   | exact LeO.none _
   | refine LeO.ite ?_ ?_
   | refine LeO.bind ?_ (fun _ => ?_)
def impl_MostSaved.T3 : Bool × List (List Nat × List Nat) := (true, [([], []), ([0], [0]), ([], []), ([2], [2]), ([3], [3]), ([], []), ([1, 4, 5, 1], [1, 4, 5]), ([6], [6]), ([7], [7]), ([7], [7]), ([8, 6, 0, 1, 2, 3, 4, 5, 6, 7, 8], [8]), ([9, 10, 0, 1, 2, 3, 4, 5, 6, 7, 8, 9, 10], [9])])
def impl_MostSaved.B3 : List Nat := [0, 1, 0, 4, 12, 0, 63, 127, 255, 255, 511, 2047]
theorem impl_MostSaved.tab3 : rtab .any (opsOf Try.f33 3) = impl_MostSaved.T3 := by kernel_rfl
theorem impl_MostSaved.bits3 : waitsOk impl_MostSaved.T3.2 impl_MostSaved.B3 = true := by kernel_rfl
set_option maxHeartbeats 8000000 in
set_option maxRecDepth 100000 in
theorem impl_MostSaved.calls (k : Nat) (a0_0 : Int) (A0_1 : Option Addr) (c0_1 : Nat) (l0_1 : List (S119)) (a1 : Int) (a2 : Int) (r1 : Int) (r2 : Bool) (w : World) (hr0_1 : Kd.C k119 w A0_1 l0_1.length l0_1) (hc0_1 : l0_1.length ≤ c0_1) (h : impl_MostSaved.f k a0_0 l0_1 a1 a2 = some (r1, r2)) :
  Calls Try.prog 33 #[.agg #[.int .i64 a0_0, .slice A0_1 l0_1.length c0_1], .int .i64 a1, .int .i64 a2] w fun e w' => e = .returned (.tuple #[.int .i64 r1, .bool r2]) ∧ Below w.heap.size w w' := by
 have hu31 := Try.underlying31
 have hu75 := Try.underlying75
 have HR0_1 := Aside0.mk hr0_1
 have HC0_1 := Aside0.mk hc0_1
 clear hr0_1 hc0_1
 have HB := aM (Below.refl w.heap.size w)
 have H : ((impl_isFire.f k a0_0 l0_1 a1 a2).bind fun t734 => (if t734 = true then ((impl_netOf.f a0_0 l0_1).bind fun t735 => (if 0 ≤ a1 then ((impl_net_fightFire.f k t735 (shl .i64 1 a1) 0 a2).bind fun bt738 => (some (bt738.1, true))) else (none))) else (some (0, false)))) = some (r1, r2) := h
 clear h
 replace H := Option.bind_eq_some_iff.mp H
 obtain ⟨t734, A40, H⟩ := H
 replace H : (if t734 = true then ((impl_netOf.f a0_0 l0_1).bind fun t735 => (if 0 ≤ a1 then ((impl_net_fightFire.f k t735 (shl .i64 1 a1) 0 a2).bind fun bt738 => (some (bt738.1, true))) else (none))) else (some (0, false))) = some (r1, r2) := H
 have A4 := Aside0.mk A40
 clear A40
 by_cases c5 : t734 = true
 rotate_left
 ·replace c5 := Bool.eq_false_iff.mpr c5
  subst c5
  have H1 : (some (0, false)) = some (r1, r2) := by rw [if_neg (show ¬ (false = true) by decide)] at H;exact H
  clear H
  have H := H1
  clear H1
  simp only [Option.some.injEq, Prod.mk.injEq] at H
  obtain ⟨rfl, rfl⟩ := H
  go_enter Try.func33, Try.ntmps33
  go_wp2_with (first | ((with_reducible refine gate_dst (N := 3) rfl ?_);refine box_event ?hg (N := 3) ?hd (cs := #[.int .i64 a0_0, .slice A0_1 l0_1.length c0_1]) (t := 31) ?hr ?_;(case hd => rfl);(case hg => rfl);(case hr => first | (go_simp;done) | (go_simp;rfl));intro gb733 hg w17 hbox hb;have n0_ := aM (below_step (by exact bB) hb);have n1_ := aM (hbox);have n2_ := aM ((by rw [hg];exact (below_size (by exact bB)) : w.heap.size ≤ gb733));have n3_ := aM ((by rw [hg];exact (below_size (by exact bB)) : w.heap.size ≤ gb733));clear HB;have HB := n0_;have BK733 := n1_;have GW733 := n2_;have GE733 := n3_;clear n0_ n1_ n2_ n3_;clear hb hbox hg;have hcz18_0 : w17.cell? ⟨gb733, 0, none⟩ = some (.int .i64 a0_0) := (blk_cell BK733.out 0).trans rfl;have hcz18_1 : w17.cell? ⟨gb733, 1, none⟩ = some (.slice A0_1 l0_1.length c0_1) := (blk_cell BK733.out 1).trans rfl;have hfz18_0 := blk_frozen BK733.out 0;have hfz18_1 := blk_frozen BK733.out 1) | ((with_reducible refine gate_callee (f := 69) rfl ?_);refine goesL_ (some 13) rfl rfl Try.func69 (by kernel_rfl) rfl #[.agg #[.int .i64 a0_0, .slice A0_1 l0_1.length c0_1], .int .i64 a1, .int .i64 a2] rfl mM ?_;(with_reducible refine (impl_isFire.calls k a0_0 _ _ l0_1 a1 a2 false _ ?side1 ?side2 A4.out).mono ?_);(case side1 => exact cP (Kd.C_below HR0_1.out HB.out));(case side2 => exact HC0_1.out);rintro e w19 ⟨rfl, hb⟩;refine ⟨_, rfl, ?_⟩;have n0_ := aM (blk_below (g := gb733) (o := .cells #[.int .i64 a0_0, .slice A0_1 l0_1.length c0_1] 31 (0, 0)) (by exact kP BK733.out) hb);have n1_ := aM (below_step (by exact bB) hb);clear BK733;clear HB;have BK733 := n0_;have HB := n1_;clear n0_ n1_;(try clear hb);(try clear hb2);(try clear hk);(try clear hi)))
  go_ret2
  exact ⟨by first | rfl | (simp [errW_none, errW_some] <;> rfl) | (simp [*, errW_none, errW_some] <;> rfl), by exact bB⟩
 subst c5
 have H1 : ((impl_netOf.f a0_0 l0_1).bind fun t735 => (if 0 ≤ a1 then ((impl_net_fightFire.f k t735 (shl .i64 1 a1) 0 a2).bind fun bt738 => (some (bt738.1, true))) else (none))) = some (r1, r2) := by rw [if_pos rfl] at H;exact H
 clear H
 have H := H1
 clear H1
 replace H := Option.bind_eq_some_iff.mp H
 obtain ⟨t735, A60, H⟩ := H
 replace H : (if 0 ≤ a1 then ((impl_net_fightFire.f k t735 (shl .i64 1 a1) 0 a2).bind fun bt738 => (some (bt738.1, true))) else (none)) = some (r1, r2) := H
 have A6 := Aside0.mk A60
 clear A60
 by_cases c7 : 0 ≤ a1
 rotate_left
 ·rw [if_neg c7] at H
  exact absurd H (by simp)
 rw [if_pos c7] at H
 have c7b0 := eq_true c7
 have c7b1 : decide (0 ≤ a1) = true := decide_eq_true c7
 clear c7
 obtain ⟨ji8, hji8⟩ : ∃ j_ : Int, (shl .i64 1 a1) = j_ := ⟨_, rfl⟩
 replace H : ((impl_net_fightFire.f k t735 (ji8) 0 a2).bind fun bt738 => (some (bt738.1, true))) = some (r1, r2) := by first | (rw [hji8] at H;exact H) | (simp only [hji8] at H ⊢;exact H)
 (try rw [hji8] at A4)
 (try rw [hji8] at A6)
 have hji8_ : (IntKind.i64.wrap (1 * 2 ^ min a1.toNat 64)) = ji8 := hji8
 have hji8z : a1 ≤ 64 → (IntKind.i64.wrap (1 * 2 ^ a1.toNat)) = ji8 := shl_small hji8
 have hji8u : (IntKind.i64.wrap (2 ^ min a1.toNat 64)) = ji8 := by have h_ := hji8_;rw [Int.one_mul] at h_;exact h_
 have hji8v : a1 ≤ 64 → (IntKind.i64.wrap (2 ^ a1.toNat)) = ji8 := fun hle_ => by have h_ := hji8z hle_;rw [Int.one_mul] at h_;exact h_
 have hji8y : (wrap64 (1 * 2 ^ min a1.toNat 64)) = ji8 := (i64_w _).symm.trans hji8_
 have hji8x : a1 ≤ 64 → (wrap64 (1 * 2 ^ a1.toNat)) = ji8 := fun h_ => (i64_w _).symm.trans (hji8z h_)
 replace H := Option.bind_eq_some_iff.mp H
 obtain ⟨⟨t738, t739⟩, A90, H⟩ := H
 replace H : (some (t738, true)) = some (r1, r2) := H
 have A9 := Aside0.mk A90
 clear A90
 simp only [Option.some.injEq, Prod.mk.injEq] at H
 obtain ⟨rfl, rfl⟩ := H
 go_enter Try.func33, Try.ntmps33
 try go_wp2_with (first | ((with_reducible refine gate_dst (N := 3) rfl ?_);refine box_event ?hg (N := 3) ?hd (cs := #[.int .i64 a0_0, .slice A0_1 l0_1.length c0_1]) (t := 31) ?hr ?_;(case hd => rfl);(case hg => rfl);(case hr => first | (go_simp;done) | (go_simp;rfl));intro gb733 hg w10 hbox hb;have n0_ := aM (below_step (by exact bB) hb);have n1_ := aM (hbox);have n2_ := aM ((by rw [hg];exact (below_size (by exact bB)) : w.heap.size ≤ gb733));have n3_ := aM ((by rw [hg];exact (below_size (by exact bB)) : w.heap.size ≤ gb733));clear HB;have HB := n0_;have BK733 := n1_;have GW733 := n2_;have GE733 := n3_;clear n0_ n1_ n2_ n3_;clear hb hbox hg;have hcz11_0 : w10.cell? ⟨gb733, 0, none⟩ = some (.int .i64 a0_0) := (blk_cell BK733.out 0).trans rfl;have hcz11_1 : w10.cell? ⟨gb733, 1, none⟩ = some (.slice A0_1 l0_1.length c0_1) := (blk_cell BK733.out 1).trans rfl;have hfz11_0 := blk_frozen BK733.out 0;have hfz11_1 := blk_frozen BK733.out 1) | ((with_reducible refine gate_callee (f := 69) rfl ?_);refine goesL_ (some 13) rfl rfl Try.func69 (by kernel_rfl) rfl #[.agg #[.int .i64 a0_0, .slice A0_1 l0_1.length c0_1], .int .i64 a1, .int .i64 a2] rfl mM ?_;(with_reducible refine (impl_isFire.calls k a0_0 _ _ l0_1 a1 a2 true _ ?side1 ?side2 A4.out).mono ?_);(case side1 => exact cP (Kd.C_below HR0_1.out HB.out));(case side2 => exact HC0_1.out);rintro e w12 ⟨rfl, hb⟩;refine ⟨_, rfl, ?_⟩;have n0_ := aM (blk_below (g := gb733) (o := .cells #[.int .i64 a0_0, .slice A0_1 l0_1.length c0_1] 31 (0, 0)) (by exact kP BK733.out) hb);have n1_ := aM (below_step (by exact bB) hb);clear BK733;clear HB;have BK733 := n0_;have HB := n1_;clear n0_ n1_;(try clear hb);(try clear hb2);(try clear hk);(try clear hi)))
 have n0_ := aM (blk_drew BK733.out)
 have n1_ := aM (below_drew1 HB.out)
 clear BK733
 clear HB
 have BK733 := n0_
 have HB := n1_
 clear n0_ n1_
 refine start_ (n := 12) (S := fun w' => w'.cell? ⟨gb733, 0, none⟩ = some (.int .i64 a0_0) ∧ w'.cell? ⟨gb733, 1, none⟩ = some (.slice A0_1 l0_1.length c0_1)) (ds := []) #[false,false,false,false,false,false,false,false,false,false,false,false] (by kernel_rfl) rfl rfl ⟨(blk_cell BK733.out 0).trans rfl, (blk_cell BK733.out 1).trans rfl⟩ (fun hHeld => ?_);refine with_tabW impl_MostSaved.tab3 impl_MostSaved.bits3 (fun HT_ HW_ => ?_)
 generalize w12.drew = w13 at BK733 HB hHeld ⊢
 refine pure_ (i := 2) (N := some 18) (v := ?_) (a' := ?_) #[false,false,true,false,false,false,false,false,false,false,false,false] rfl rfl (any_of HT_.out (by kernel_rfl)) (fun _ _ _ h => h) (Or.inl ⟨by rfl, ?_⟩) ?_ ?_
 rotate_left
 ·intro w'
  go_simp
  with_reducible rfl
 rotate_left
 ·exact aP
 refine pure_ (i := 3) (N := some 19) (v := ?_) (a' := ?_) #[false,false,true,true,false,false,false,false,false,false,false,false] rfl rfl (any_of HT_.out (by kernel_rfl)) (fun _ _ _ h => h) (Or.inl ⟨by rfl, ?_⟩) ?_ ?_
 rotate_left
 ·intro w'
  go_simp
  with_reducible rfl
 rotate_left
 ·exact aP
 refine pure_ (i := 4) (N := some 20) (v := ?_) (a' := ?_) #[false,false,true,true,true,false,false,false,false,false,false,false] rfl rfl (any_of HT_.out (by kernel_rfl)) (fun _ _ _ h => h) (Or.inl ⟨by rfl, ?_⟩) ?_ ?_
 rotate_left
 ·intro w'
  go_simp
  with_reducible rfl
 rotate_left
 ·exact aP
 refine pure_ (i := 5) (N := some 21) (v := ?_) (a' := ?_) #[false,false,true,true,true,true,false,false,false,false,false,false] rfl rfl (any_of HT_.out (by kernel_rfl)) (fun _ _ _ h => h) (Or.inl ⟨by rfl, ?_⟩) ?_ ?_
 rotate_left
 ·intro w'
  go_simp
  with_reducible rfl
 rotate_left
 ·exact aP
 refine take_ (i := 0) (N := some 16) (v := ?_) (a' := ?_) #[true,false,true,true,true,true,false,false,false,false,false,false] rfl rfl (take_ofW HT_.out HW_.out (by kernel_rfl)) (fun _ _ _ h => h) (Or.inl ⟨by rfl, ?_⟩) hHeld ?_ ?_
 rotate_left
 ·rintro w' ⟨s0, s1⟩
  go_simp
  with_reducible rfl
 rotate_left
 ·exact aP
 refine one_ (i := 1) (N := some 17) #[true,true,true,true,true,true,false,false,false,false,false,false] rfl rfl (one_of HT_.out (by kernel_rfl)) (by decide) (fun K hK => ?_)
 refine goes_ Try.func72 (by kernel_rfl) rfl #[.agg #[.int .i64 a0_0, .slice A0_1 l0_1.length c0_1]] (by rfl) rfl rfl mM ?_
 with_reducible refine (impl_netOf.calls a0_0 _ _ l0_1 t735 _ ?side1 ?side2 A6.out).mono ?_
 (case side1 => exact cP (Kd.C_below HR0_1.out HB.out))
 (case side2 => exact HC0_1.out)
 rintro e w14 ⟨v736, rfl, ho0, hb⟩
 refine ⟨_, rfl, ?_⟩
 have n0_ := aM (Kd.R_lower ho0 (below_size (by exact bB)))
 have n1_ := aM (blk_below (g := gb733) (o := .cells #[.int .i64 a0_0, .slice A0_1 l0_1.length c0_1] 31 (0, 0)) (by exact kP BK733.out) hb)
 have n2_ := aM (below_step (by exact bB) hb)
 clear BK733
 clear HB
 have HO737 := n0_
 have BK733 := n1_
 have HB := n2_
 clear n0_ n1_ n2_
 (try clear hb)
 (try clear hb2)
 (try clear hk)
 (try clear hi)
 (try clear ho0)
 obtain ⟨Ao15, co15, eo15⟩ := Kd.R_slice HO737.out
 (first | subst eo15 | (injection eo15 with f1_ f2_ f3_;have f4_ := f1_.symm;have f5_ := f3_.symm;clear f1_ f2_ f3_;subst f4_;subst f5_))
 refine hK.out _ _ ⟨(blk_cell BK733.out 0).trans rfl, (blk_cell BK733.out 1).trans rfl⟩ (fun hHeld => ?_)
 clear hK K
 refine norm_ (a' := ?_) ?_ ?_
 rotate_left
 ·show Act.put _ (some 17) _ = _
  simp only [Act.put, List.setIfInBounds_toArray, List.set_cons_zero, List.set_cons_succ, i64_w, i32_w]
  rfl
 refine one_ (i := 6) (N := some 22) #[true,true,true,true,true,true,true,false,false,false,false,false] rfl rfl (one_of HT_.out (by kernel_rfl)) (by decide) (fun K hK => ?_)
 refine goes_ Try.func77 (by kernel_rfl) rfl #[.agg #[.slice Ao15 t735.length co15], .agg #[.int .i64 ji8, .int .i64 0], .int .i64 a2] (by rfl) rfl rfl (by (try simp only [List.map_toArray, List.map_cons, List.map_nil]);first | done | (simp only [hji8];rfl) | rfl | (simp only [List.length_drop, List.length_take];rfl)) ?_
 with_reducible refine (impl_net_fightFire.calls k _ _ t735 ji8 0 a2 t738 t739 _ ?side1 ?side2 A9.out).mono ?_
 (case side1 => exact cP (Kd.R_reads' HO737.out).2.2)
 (case side2 => exact (Kd.R_reads' HO737.out).2.1)
 rintro e w16 ⟨v740, rfl, ho0, hb⟩
 refine ⟨_, rfl, ?_⟩
 have n0_ := aM (Kd.R_below (by exact rP HO737.out) hb)
 have n1_ := aM (Kd.N_lower (Kd.N_mono (ok' := fun k_ => some k_ ≠ (.slice Ao15 t735.length co15 : Value).ownBlock ∧ k_ ≠ gb733) ho0 (fun k_ hk_ => ⟨(Kd.fresh' (Kd.R_lt (by exact rP HO737.out)) k_ hk_), (Kd.freshB (g := gb733) (o := .cells #[.int .i64 a0_0, .slice A0_1 l0_1.length c0_1] 31 (0, 0)) (by exact kP BK733.out) k_ hk_)⟩)) (below_size (by exact bB)))
 have n2_ := aM (blk_below (g := gb733) (o := .cells #[.int .i64 a0_0, .slice A0_1 l0_1.length c0_1] 31 (0, 0)) (by exact kP BK733.out) hb)
 have n3_ := aM (below_step (by exact bB) hb)
 clear HO737
 clear BK733
 clear HB
 have HO737 := n0_
 have HO741 := n1_
 have BK733 := n2_
 have HB := n3_
 clear n0_ n1_ n2_ n3_
 (try clear hb)
 (try clear hb2)
 (try clear hk)
 (try clear hi)
 (try clear ho0)
 refine hK.out _ _ ⟨(blk_cell BK733.out 0).trans rfl, (blk_cell BK733.out 1).trans rfl⟩ (fun hHeld => ?_)
 clear hK K
 refine norm_ (a' := ?_) ?_ ?_
 rotate_left
 ·show Act.put _ (some 22) _ = _
  simp only [Act.put, List.setIfInBounds_toArray, List.set_cons_zero, List.set_cons_succ, i64_w, i32_w]
  rfl
 refine pure_ (i := 7) (N := some 15) (v := ?_) (a' := ?_) #[true,true,true,true,true,true,true,true,false,false,false,false] rfl rfl (any_of HT_.out (by kernel_rfl)) (fun _ _ _ h => h) (Or.inl ⟨by rfl, ?_⟩) ?_ ?_
 rotate_left
 ·intro w'
  go_simp
  with_reducible rfl
 rotate_left
 ·exact aP
 refine pure_ (i := 8) (N := some 23) (v := ?_) (a' := ?_) #[true,true,true,true,true,true,true,true,true,false,false,false] rfl rfl (any_of HT_.out (by kernel_rfl)) (fun _ _ _ h => h) (Or.inl ⟨by rfl, ?_⟩) ?_ ?_
 rotate_left
 ·intro w'
  go_simp
  with_reducible rfl
 rotate_left
 ·exact aP
 refine pure_ (i := 9) (N := some 24) (v := ?_) (a' := ?_) #[true,true,true,true,true,true,true,true,true,true,false,false] rfl rfl (any_of HT_.out (by kernel_rfl)) (fun _ _ _ h => h) (Or.inl ⟨by rfl, ?_⟩) ?_ ?_
 rotate_left
 ·intro w'
  go_simp
  with_reducible rfl
 rotate_left
 ·exact aP
 refine pure_ (i := 10) (N := some 8) (v := ?_) (a' := ?_) #[true,true,true,true,true,true,true,true,true,true,true,false] rfl rfl (any_of HT_.out (by kernel_rfl)) (fun _ _ _ h => h) (Or.inl ⟨by rfl, ?_⟩) ?_ ?_
 rotate_left
 ·intro w'
  go_simp
  with_reducible rfl
 rotate_left
 ·exact aP
 refine pure_ (i := 11) (N := some 9) (v := ?_) (a' := ?_) #[true,true,true,true,true,true,true,true,true,true,true,true] rfl rfl (any_of HT_.out (by kernel_rfl)) (fun _ _ _ h => h) (Or.inl ⟨by rfl, ?_⟩) ?_ ?_
 rotate_left
 ·intro w'
  go_simp
  with_reducible rfl
 rotate_left
 ·exact aP
 refine done_ (done_of HT_.out (by kernel_rfl)) ?_
 try go_wp2
 go_ret2
 exact ⟨by first | rfl | (simp [errW_none, errW_some] <;> rfl) | (simp only [← hji8];first | rfl | (simp [errW_none, errW_some] <;> rfl)) | (simp [*, errW_none, errW_some] <;> rfl), by exact bB⟩


/-! ### spec_MostSaved: function 34 -/
def spec_MostSaved.f (k : Nat) (a0_0 : Int) (l0_1 : List (S119)) (a1 : Int) (a2 : Int) : Option (Int × Bool) := (spec_l8Good.f a0_0 l0_1 a1 a2).bind fun t743 => (if t743 = true then ((spec_l8Best.f k a0_0 l0_1 (([a1] : List Int)) ([] : List Int) a2).bind fun bt747 => (some (bt747.2, true))) else (some (0, false)))
theorem spec_MostSaved.mono : ∀ a0 a1 a2 a3 k, LeO (spec_MostSaved.f k a0 a1 a2 a3) (spec_MostSaved.f (k + 1) a0 a1 a2 a3) := by
 intro a0 a1 a2 a3 k
 unfold spec_MostSaved.f
 repeat' first
   | (with_reducible exact spec_l8Best.mono _ _ _ _ _ _)
   | (with_reducible exact LeO.refl _)
   | (with_reducible exact LeO.none _)
   | (with_reducible refine LeO.ite ?_ ?_)
   | (with_reducible refine LeO.bind ?_ (fun _ => ?_))
   | exact spec_l8Best.mono _ _ _ _ _ _
   | exact LeO.none _
   | refine LeO.ite ?_ ?_
   | refine LeO.bind ?_ (fun _ => ?_)
set_option maxHeartbeats 8000000 in
set_option maxRecDepth 100000 in
theorem spec_MostSaved.calls (k : Nat) (a0_0 : Int) (A0_1 : Option Addr) (c0_1 : Nat) (l0_1 : List (S119)) (a1 : Int) (a2 : Int) (r1 : Int) (r2 : Bool) (w : World) (hr0_1 : Kd.C k119 w A0_1 l0_1.length l0_1) (hc0_1 : l0_1.length ≤ c0_1) (h : spec_MostSaved.f k a0_0 l0_1 a1 a2 = some (r1, r2)) :
  Calls Try.prog 34 #[.agg #[.int .i64 a0_0, .slice A0_1 l0_1.length c0_1], .int .i64 a1, .int .i64 a2] w fun e w' => e = .returned (.tuple #[.int .i64 r1, .bool r2]) ∧ Below w.heap.size w w' := by
 have hu31 := Try.underlying31
 have hu71 := Try.underlying71
 have HR0_1 := Aside0.mk hr0_1
 have HC0_1 := Aside0.mk hc0_1
 clear hr0_1 hc0_1
 have HB := aM (Below.refl w.heap.size w)
 have H : ((spec_l8Good.f a0_0 l0_1 a1 a2).bind fun t743 => (if t743 = true then ((spec_l8Best.f k a0_0 l0_1 (([a1] : List Int)) ([] : List Int) a2).bind fun bt747 => (some (bt747.2, true))) else (some (0, false)))) = some (r1, r2) := h
 clear h
 replace H := Option.bind_eq_some_iff.mp H
 obtain ⟨t743, A40, H⟩ := H
 replace H : (if t743 = true then ((spec_l8Best.f k a0_0 l0_1 (([a1] : List Int)) ([] : List Int) a2).bind fun bt747 => (some (bt747.2, true))) else (some (0, false))) = some (r1, r2) := H
 have A4 := Aside0.mk A40
 clear A40
 by_cases c5 : t743 = true
 rotate_left
 ·replace c5 := Bool.eq_false_iff.mpr c5
  subst c5
  have H1 : (some (0, false)) = some (r1, r2) := by rw [if_neg (show ¬ (false = true) by decide)] at H;exact H
  clear H
  have H := H1
  clear H1
  simp only [Option.some.injEq, Prod.mk.injEq] at H
  obtain ⟨rfl, rfl⟩ := H
  go_enter Try.func34, Try.ntmps34
  go_wp2_with (first | ((with_reducible refine gate_dst (N := 3) rfl ?_);refine box_event ?hg (N := 3) ?hd (cs := #[.int .i64 a0_0, .slice A0_1 l0_1.length c0_1]) (t := 31) ?hr ?_;(case hd => rfl);(case hg => rfl);(case hr => first | (go_simp;done) | (go_simp;rfl));intro gb742 hg w15 hbox hb;have n0_ := aM (below_step (by exact bB) hb);have n1_ := aM (hbox);have n2_ := aM ((by rw [hg];exact (below_size (by exact bB)) : w.heap.size ≤ gb742));have n3_ := aM ((by rw [hg];exact (below_size (by exact bB)) : w.heap.size ≤ gb742));clear HB;have HB := n0_;have BK742 := n1_;have GW742 := n2_;have GE742 := n3_;clear n0_ n1_ n2_ n3_;clear hb hbox hg;have hcz16_0 : w15.cell? ⟨gb742, 0, none⟩ = some (.int .i64 a0_0) := (blk_cell BK742.out 0).trans rfl;have hcz16_1 : w15.cell? ⟨gb742, 1, none⟩ = some (.slice A0_1 l0_1.length c0_1) := (blk_cell BK742.out 1).trans rfl;have hfz16_0 := blk_frozen BK742.out 0;have hfz16_1 := blk_frozen BK742.out 1) | ((with_reducible refine gate_callee (f := 63) rfl ?_);refine goesL_ (some 13) rfl rfl Try.func63 (by kernel_rfl) rfl #[.agg #[.int .i64 a0_0, .slice A0_1 l0_1.length c0_1], .int .i64 a1, .int .i64 a2] rfl mM ?_;(with_reducible refine (spec_l8Good.calls a0_0 _ _ l0_1 a1 a2 false _ ?side1 ?side2 A4.out).mono ?_);(case side1 => exact cP (Kd.C_below HR0_1.out HB.out));(case side2 => exact HC0_1.out);rintro e w17 ⟨rfl, hb⟩;refine ⟨_, rfl, ?_⟩;have n0_ := aM (blk_below (g := gb742) (o := .cells #[.int .i64 a0_0, .slice A0_1 l0_1.length c0_1] 31 (0, 0)) (by exact kP BK742.out) hb);have n1_ := aM (below_step (by exact bB) hb);clear BK742;clear HB;have BK742 := n0_;have HB := n1_;clear n0_ n1_;(try clear hb);(try clear hb2);(try clear hk);(try clear hi)))
  go_ret2
  exact ⟨by first | rfl | (simp [errW_none, errW_some] <;> rfl) | (simp [*, errW_none, errW_some] <;> rfl), by exact bB⟩
 subst c5
 have H1 : ((spec_l8Best.f k a0_0 l0_1 (([a1] : List Int)) ([] : List Int) a2).bind fun bt747 => (some (bt747.2, true))) = some (r1, r2) := by rw [if_pos rfl] at H;exact H
 clear H
 have H := H1
 clear H1
 obtain ⟨y744, hy744⟩ : ∃ y_ : List Int, y_ = (([a1] : List Int)) := ⟨_, rfl⟩
 replace H : ((spec_l8Best.f k a0_0 l0_1 y744 ([] : List Int) a2).bind fun bt747 => (some (bt747.2, true))) = some (r1, r2) := by first | (rw [hy744];with_reducible exact H) | (have H2_ := (Option.bind_some _ _).symm.trans H;rw [hy744];with_reducible exact H2_) | (have H2_ := (Option.bind_some _ _).symm.trans H;with_reducible exact H2_) | with_reducible exact H | (rw [hy744];exact H) | exact H
 have Ny744 := Aside0.mk hy744
 clear hy744
 replace H := Option.bind_eq_some_iff.mp H
 obtain ⟨⟨t747, t750⟩, A60, H⟩ := H
 replace H : (some (t750, true)) = some (r1, r2) := H
 have A6 := Aside0.mk A60
 clear A60
 simp only [Option.some.injEq, Prod.mk.injEq] at H
 obtain ⟨rfl, rfl⟩ := H
 go_enter Try.func34, Try.ntmps34
 go_wp2_with (first | ((with_reducible refine gate_dst (N := 3) rfl ?_);refine box_event ?hg (N := 3) ?hd (cs := #[.int .i64 a0_0, .slice A0_1 l0_1.length c0_1]) (t := 31) ?hr ?_;(case hd => rfl);(case hg => rfl);(case hr => first | (go_simp;done) | (go_simp;rfl));intro gb742 hg w7 hbox hb;have n0_ := aM (below_step (by exact bB) hb);have n1_ := aM (hbox);have n2_ := aM ((by rw [hg];exact (below_size (by exact bB)) : w.heap.size ≤ gb742));have n3_ := aM ((by rw [hg];exact (below_size (by exact bB)) : w.heap.size ≤ gb742));clear HB;have HB := n0_;have BK742 := n1_;have GW742 := n2_;have GE742 := n3_;clear n0_ n1_ n2_ n3_;clear hb hbox hg;have hcz8_0 : w7.cell? ⟨gb742, 0, none⟩ = some (.int .i64 a0_0) := (blk_cell BK742.out 0).trans rfl;have hcz8_1 : w7.cell? ⟨gb742, 1, none⟩ = some (.slice A0_1 l0_1.length c0_1) := (blk_cell BK742.out 1).trans rfl;have hfz8_0 := blk_frozen BK742.out 0;have hfz8_1 := blk_frozen BK742.out 1) | ((with_reducible refine gate_callee (f := 63) rfl ?_);refine goesL_ (some 13) rfl rfl Try.func63 (by kernel_rfl) rfl #[.agg #[.int .i64 a0_0, .slice A0_1 l0_1.length c0_1], .int .i64 a1, .int .i64 a2] rfl mM ?_;(with_reducible refine (spec_l8Good.calls a0_0 _ _ l0_1 a1 a2 true _ ?side1 ?side2 A4.out).mono ?_);(case side1 => exact cP (Kd.C_below HR0_1.out HB.out));(case side2 => exact HC0_1.out);rintro e w9 ⟨rfl, hb⟩;refine ⟨_, rfl, ?_⟩;have n0_ := aM (blk_below (g := gb742) (o := .cells #[.int .i64 a0_0, .slice A0_1 l0_1.length c0_1] 31 (0, 0)) (by exact kP BK742.out) hb);have n1_ := aM (below_step (by exact bB) hb);clear BK742;clear HB;have BK742 := n0_;have HB := n1_;clear n0_ n1_;(try clear hb);(try clear hb2);(try clear hk);(try clear hi);have hcz10_0 : w9.cell? ⟨gb742, 0, none⟩ = some (.int .i64 a0_0) := (blk_cell BK742.out 0).trans rfl;have hcz10_1 : w9.cell? ⟨gb742, 1, none⟩ = some (.slice A0_1 l0_1.length c0_1) := (blk_cell BK742.out 1).trans rfl;have hfz10_0 := blk_frozen BK742.out 0;have hfz10_1 := blk_frozen BK742.out 1) | ((with_reducible refine gate_dst (N := 18) rfl ?_);refine Kd.R_lit (Kd.int .i64) _ 3 ?hg (N := 18) ?hd (xs := ([a1] : List Int)) (inner := [.int .i64 a1]) (ok := fun _ => True) (okp := fun _ => True) ?hr ?hp (fun _ hk => hk) trivial (Below.refl _ _) (Nat.le_refl _) (by simp) ?_;(case hd => rfl);(case hg => rfl);(case hr => first | (go_simp;done) | (go_simp;rfl));(case hp => exact (Reps.one (show Kd.M (Kd.int .i64) _ _ _ a1 [.int .i64 a1] from rfl) (Reps.none _ _)));intro v745 w11 ho12 hb hg_ hnew_;clear hg_ hnew_;(first | rw [← Ny744.out] at ho12 | (simp only [Int.reduceToNat] at ho12;rw [← Ny744.out] at ho12));have n0_ := aM (Kd.R_lower ho12 (below_size (by exact bB)));have n1_ := aM (blk_below (g := gb742) (o := .cells #[.int .i64 a0_0, .slice A0_1 l0_1.length c0_1] 31 (0, 0)) (by exact kP BK742.out) hb);have n2_ := aM (below_step (by exact bB) hb);clear BK742;clear HB;have HO746 := n0_;have BK742 := n1_;have HB := n2_;clear n0_ n1_ n2_;clear hb ho12;obtain ⟨Ao13, co13, eo13⟩ := Kd.R_slice HO746.out;subst eo13) | ((with_reducible refine gate_callee (f := 76) rfl ?_);refine goesL_ (some 21) rfl rfl Try.func76 (by kernel_rfl) rfl #[.agg #[.int .i64 a0_0, .slice A0_1 l0_1.length c0_1], .agg #[.slice Ao13 y744.length co13, .slice none 0 0], .int .i64 a2] rfl mM ?_;(refine (spec_l8Best.calls k a0_0 _ _ l0_1 _ _ y744 _ _ ([] : List Int) a2 t747 t750 _ ?side1 ?side2 ?side3 ?side4 ?side5 ?side6 A6.out).mono ?_);(case side1 => exact cP (Kd.C_below HR0_1.out HB.out));(case side2 => exact HC0_1.out);(case side3 => exact cP (Kd.R_reads' HO746.out).2.2);(case side4 => exact (Kd.R_reads' HO746.out).2.1);(case side5 => exact Kd.C_nil _ _);(case side6 => exact Nat.le_refl _);rintro e w14 ⟨v748, rfl, ho0, hb⟩;refine ⟨_, rfl, ?_⟩;have n0_ := aM (Kd.R_below (by exact rP HO746.out) hb);have n1_ := aM (Kd.N_lower (Kd.N_mono (ok' := fun k_ => some k_ ≠ (.slice Ao13 y744.length co13 : Value).ownBlock ∧ k_ ≠ gb742) ho0 (fun k_ hk_ => ⟨(Kd.fresh' (Kd.R_lt (by exact rP HO746.out)) k_ hk_), (Kd.freshB (g := gb742) (o := .cells #[.int .i64 a0_0, .slice A0_1 l0_1.length c0_1] 31 (0, 0)) (by exact kP BK742.out) k_ hk_)⟩)) (below_size (by exact bB)));have n2_ := aM (blk_below (g := gb742) (o := .cells #[.int .i64 a0_0, .slice A0_1 l0_1.length c0_1] 31 (0, 0)) (by exact kP BK742.out) hb);have n3_ := aM (below_step (by exact bB) hb);clear HO746;clear BK742;clear HB;have HO746 := n0_;have HO749 := n1_;have BK742 := n2_;have HB := n3_;clear n0_ n1_ n2_ n3_;(try clear hb);(try clear hb2);(try clear hk);(try clear hi);(try clear ho0)))
 go_ret2
 exact ⟨by first | rfl | (simp [errW_none, errW_some] <;> rfl) | (simp [*, errW_none, errW_some] <;> rfl), by exact bB⟩


/-! ### laws_FnSavedSum: function 6 -/
mutual
def laws_FnSavedSum.j0 : Nat → Int → Int → Bool → Bool → Int → List (S119) → Option (Bool)
 | 0, _, _, _, _, _, _ => none
 | k + 1, x4, x5, x6, x41, x758000, x758001 => if x41 = true then (some false) else (if x6 = true then (laws_FnSavedSum.l0 k x4 x5 0 0 x758000 x758001) else (some true))
def laws_FnSavedSum.l0 : Nat → Int → Int → Int → Int → Int → List (S119) → Option (Bool)
 | 0, _, _, _, _, _, _ => none
 | k + 1, x4, x5, x9, x10, x758000, x758001 => if x10 < x758000 then ((impl_MostSaved.f k x758000 x758001 x10 x4).bind fun bt762 => ((spec_MostSaved.f k x758000 x758001 x10 x4).bind fun bt764 => (if bt762.2 = true then (if bt764.2 = true then (if bt762.1 = bt764.1 then (laws_FnSavedSum.l0 k x4 x5 (wrap64 (x9 + bt762.1)) (wrap64 (x10 + 1)) x758000 x758001) else (some false)) else (some false)) else (some false)))) else (some (x9 == x5))
end
def laws_FnSavedSum.f (k : Nat) (l0 : List Int) : Option (Bool) := (laws_rBig.f l0).bind fun t751 => (if t751 = true then (some true) else ((spec_DrawSavedSum.f k l0).bind fun bt752 => ((impl_SavedSum.f k bt752.1 bt752.2.1 bt752.2.2).bind fun bt758 => ((spec_SavedSum.f k bt752.1 bt752.2.1 bt752.2.2).bind fun bt760 => (if bt758.1 = bt760.1 then (laws_FnSavedSum.j0 k bt752.2.2 bt758.1 bt758.2 (bt758.2 != bt760.2) bt752.1 bt752.2.1) else (laws_FnSavedSum.j0 k bt752.2.2 bt758.1 bt758.2 true bt752.1 bt752.2.1))))))
theorem laws_FnSavedSum.mono_l : ∀ k, (∀ y0 y1 y2 y3 y4 y5, LeO (laws_FnSavedSum.j0 k y0 y1 y2 y3 y4 y5) (laws_FnSavedSum.j0 (k + 1) y0 y1 y2 y3 y4 y5)) ∧ (∀ y0 y1 y2 y3 y4 y5, LeO (laws_FnSavedSum.l0 k y0 y1 y2 y3 y4 y5) (laws_FnSavedSum.l0 (k + 1) y0 y1 y2 y3 y4 y5))
 | 0 => ⟨fun _ _ _ _ _ _ r h => by simp [laws_FnSavedSum.j0] at h, fun _ _ _ _ _ _ r h => by simp [laws_FnSavedSum.l0] at h⟩
 | k + 1 => by
  obtain ⟨ih0, ih1⟩ := laws_FnSavedSum.mono_l k
  refine ⟨?_, ?_⟩
  ·intro y0 y1 y2 y3 y4 y5
   unfold laws_FnSavedSum.j0
   repeat' first
   | (with_reducible exact ih0 _ _ _ _ _ _)
   | (with_reducible exact ih1 _ _ _ _ _ _)
   | (with_reducible exact impl_MostSaved.mono _ _ _ _ _)
   | (with_reducible exact impl_SavedSum.mono _ _ _ _)
   | (with_reducible exact spec_DrawSavedSum.mono _ _)
   | (with_reducible exact spec_MostSaved.mono _ _ _ _ _)
   | (with_reducible exact spec_SavedSum.mono _ _ _ _)
   | (with_reducible exact LeO.refl _)
   | (with_reducible exact LeO.none _)
   | (with_reducible refine LeO.ite ?_ ?_)
   | (with_reducible refine LeO.bind ?_ (fun _ => ?_))
   | exact ih0 _ _ _ _ _ _
   | exact ih1 _ _ _ _ _ _
   | exact impl_MostSaved.mono _ _ _ _ _
   | exact impl_SavedSum.mono _ _ _ _
   | exact spec_DrawSavedSum.mono _ _
   | exact spec_MostSaved.mono _ _ _ _ _
   | exact spec_SavedSum.mono _ _ _ _
   | exact LeO.none _
   | refine LeO.ite ?_ ?_
   | refine LeO.bind ?_ (fun _ => ?_)
  ·intro y0 y1 y2 y3 y4 y5
   unfold laws_FnSavedSum.l0
   repeat' first
   | (with_reducible exact ih0 _ _ _ _ _ _)
   | (with_reducible exact ih1 _ _ _ _ _ _)
   | (with_reducible exact impl_MostSaved.mono _ _ _ _ _)
   | (with_reducible exact impl_SavedSum.mono _ _ _ _)
   | (with_reducible exact spec_DrawSavedSum.mono _ _)
   | (with_reducible exact spec_MostSaved.mono _ _ _ _ _)
   | (with_reducible exact spec_SavedSum.mono _ _ _ _)
   | (with_reducible exact LeO.refl _)
   | (with_reducible exact LeO.none _)
   | (with_reducible refine LeO.ite ?_ ?_)
   | (with_reducible refine LeO.bind ?_ (fun _ => ?_))
   | exact ih0 _ _ _ _ _ _
   | exact ih1 _ _ _ _ _ _
   | exact impl_MostSaved.mono _ _ _ _ _
   | exact impl_SavedSum.mono _ _ _ _
   | exact spec_DrawSavedSum.mono _ _
   | exact spec_MostSaved.mono _ _ _ _ _
   | exact spec_SavedSum.mono _ _ _ _
   | exact LeO.none _
   | refine LeO.ite ?_ ?_
   | refine LeO.bind ?_ (fun _ => ?_)
theorem laws_FnSavedSum.mono : ∀ a0 k, LeO (laws_FnSavedSum.f k a0) (laws_FnSavedSum.f (k + 1) a0) := by
 intro a0 k
 obtain ⟨ih0, ih1⟩ := laws_FnSavedSum.mono_l k
 unfold laws_FnSavedSum.f
 repeat' first
   | (with_reducible exact ih0 _ _ _ _ _ _)
   | (with_reducible exact ih1 _ _ _ _ _ _)
   | (with_reducible exact impl_MostSaved.mono _ _ _ _ _)
   | (with_reducible exact impl_SavedSum.mono _ _ _ _)
   | (with_reducible exact spec_DrawSavedSum.mono _ _)
   | (with_reducible exact spec_MostSaved.mono _ _ _ _ _)
   | (with_reducible exact spec_SavedSum.mono _ _ _ _)
   | (with_reducible exact LeO.refl _)
   | (with_reducible exact LeO.none _)
   | (with_reducible refine LeO.ite ?_ ?_)
   | (with_reducible refine LeO.bind ?_ (fun _ => ?_))
   | exact ih0 _ _ _ _ _ _
   | exact ih1 _ _ _ _ _ _
   | exact impl_MostSaved.mono _ _ _ _ _
   | exact impl_SavedSum.mono _ _ _ _
   | exact spec_DrawSavedSum.mono _ _
   | exact spec_MostSaved.mono _ _ _ _ _
   | exact spec_SavedSum.mono _ _ _ _
   | exact LeO.none _
   | refine LeO.ite ?_ ?_
   | refine LeO.bind ?_ (fun _ => ?_)
set_option maxHeartbeats 8000000 in
set_option maxRecDepth 100000 in
theorem laws_FnSavedSum.calls (k : Nat) (A0 : Option Addr) (c0 : Nat) (l0 : List Int) (r : Bool) (w : World) (hr0 : Kd.C (Kd.int .u8) w A0 l0.length l0) (hc0 : l0.length ≤ c0) (h : laws_FnSavedSum.f k l0 = some r) :
  Calls Try.prog 6 #[.slice A0 l0.length c0] w fun e w' => e = .returned (.bool r) ∧ Below w.heap.size w w' := by
 have hu31 := Try.underlying31
 have HR0 := Aside0.mk hr0
 have HC0 := Aside0.mk hc0
 clear hr0 hc0
 have HB := aM (Below.refl w.heap.size w)
 have H : ((laws_rBig.f l0).bind fun t751 => (if t751 = true then (some true) else ((spec_DrawSavedSum.f k l0).bind fun bt752 => ((impl_SavedSum.f k bt752.1 bt752.2.1 bt752.2.2).bind fun bt758 => ((spec_SavedSum.f k bt752.1 bt752.2.1 bt752.2.2).bind fun bt760 => (if bt758.1 = bt760.1 then (laws_FnSavedSum.j0 k bt752.2.2 bt758.1 bt758.2 (bt758.2 != bt760.2) bt752.1 bt752.2.1) else (laws_FnSavedSum.j0 k bt752.2.2 bt758.1 bt758.2 true bt752.1 bt752.2.1))))))) = some r := h
 clear h
 replace H := Option.bind_eq_some_iff.mp H
 obtain ⟨t751, A20, H⟩ := H
 replace H : (if t751 = true then (some true) else ((spec_DrawSavedSum.f k l0).bind fun bt752 => ((impl_SavedSum.f k bt752.1 bt752.2.1 bt752.2.2).bind fun bt758 => ((spec_SavedSum.f k bt752.1 bt752.2.1 bt752.2.2).bind fun bt760 => (if bt758.1 = bt760.1 then (laws_FnSavedSum.j0 k bt752.2.2 bt758.1 bt758.2 (bt758.2 != bt760.2) bt752.1 bt752.2.1) else (laws_FnSavedSum.j0 k bt752.2.2 bt758.1 bt758.2 true bt752.1 bt752.2.1)))))) = some r := H
 have A2 := Aside0.mk A20
 clear A20
 by_cases c3 : t751 = true
 ·subst c3
  have H1 : (some true) = some r := by rw [if_pos rfl] at H;exact H
  clear H
  have H := H1
  clear H1
  obtain rfl := Option.some.inj H
  go_enter Try.func6, Try.ntmps6
  go_wp2_with (first | ((with_reducible refine gate_callee (f := 29) rfl ?_);refine goesL_ (some 16) rfl rfl Try.func29 (by kernel_rfl) rfl #[.slice A0 l0.length c0] rfl mM ?_;(with_reducible refine (laws_rBig.calls _ _ l0 true _ ?side1 ?side2 A2.out).mono ?_);(case side1 => exact cP HR0.out);(case side2 => exact HC0.out);rintro e w' ⟨rfl, ⟨nd, rfl⟩⟩;refine ⟨_, rfl, ?_⟩))
  go_ret
  exact ⟨by first | rfl | (simp [errW_none, errW_some] <;> rfl) | (simp [*, errW_none, errW_some] <;> rfl), by exact bB⟩
 replace c3 := Bool.eq_false_iff.mpr c3
 subst c3
 have H1 : ((spec_DrawSavedSum.f k l0).bind fun bt752 => ((impl_SavedSum.f k bt752.1 bt752.2.1 bt752.2.2).bind fun bt758 => ((spec_SavedSum.f k bt752.1 bt752.2.1 bt752.2.2).bind fun bt760 => (if bt758.1 = bt760.1 then (laws_FnSavedSum.j0 k bt752.2.2 bt758.1 bt758.2 (bt758.2 != bt760.2) bt752.1 bt752.2.1) else (laws_FnSavedSum.j0 k bt752.2.2 bt758.1 bt758.2 true bt752.1 bt752.2.1))))) = some r := by rw [if_neg (show ¬ (false = true) by decide)] at H;exact H
 clear H
 have H := H1
 clear H1
 replace H := Option.bind_eq_some_iff.mp H
 obtain ⟨⟨t752, t753, t756⟩, A40, H⟩ := H
 replace H : ((impl_SavedSum.f k t752 t753 t756).bind fun bt758 => ((spec_SavedSum.f k t752 t753 t756).bind fun bt760 => (if bt758.1 = bt760.1 then (laws_FnSavedSum.j0 k t756 bt758.1 bt758.2 (bt758.2 != bt760.2) t752 t753) else (laws_FnSavedSum.j0 k t756 bt758.1 bt758.2 true t752 t753)))) = some r := H
 have A4 := Aside0.mk A40
 clear A40
 replace H := Option.bind_eq_some_iff.mp H
 obtain ⟨⟨t758, t759⟩, A50, H⟩ := H
 replace H : ((spec_SavedSum.f k t752 t753 t756).bind fun bt760 => (if t758 = bt760.1 then (laws_FnSavedSum.j0 k t756 t758 t759 (t759 != bt760.2) t752 t753) else (laws_FnSavedSum.j0 k t756 t758 t759 true t752 t753))) = some r := H
 have A5 := Aside0.mk A50
 clear A50
 replace H := Option.bind_eq_some_iff.mp H
 obtain ⟨⟨t760, t761⟩, A60, H⟩ := H
 replace H : (if t758 = t760 then (laws_FnSavedSum.j0 k t756 t758 t759 (t759 != t761) t752 t753) else (laws_FnSavedSum.j0 k t756 t758 t759 true t752 t753)) = some r := H
 have A6 := Aside0.mk A60
 clear A60
 have HC7 := Aside0.mk H
 clear H
 go_enter Try.func6, Try.ntmps6
 go_upto_region 6 with (first | ((with_reducible refine gate_callee (f := 29) rfl ?_);refine goesL_ (some 16) rfl rfl Try.func29 (by kernel_rfl) rfl #[.slice A0 l0.length c0] rfl mM ?_;(with_reducible refine (laws_rBig.calls _ _ l0 false _ ?side1 ?side2 A2.out).mono ?_);(case side1 => exact cP HR0.out);(case side2 => exact HC0.out);rintro e w' ⟨rfl, ⟨nd, rfl⟩⟩;refine ⟨_, rfl, ?_⟩) | ((with_reducible refine gate_callee (f := 30) rfl ?_);refine goesL_ (some 19) rfl rfl Try.func30 (by kernel_rfl) rfl #[.slice A0 l0.length c0] rfl mM ?_;(with_reducible refine (spec_DrawSavedSum.calls k _ _ l0 t752 t753 t756 _ ?side1 ?side2 A4.out).mono ?_);(case side1 => exact cP HR0.out);(case side2 => exact HC0.out);rintro e w8 ⟨v754, rfl, ho0, hb⟩;refine ⟨_, rfl, ?_⟩;have n0_ := aM (Kd.R_lower ho0 (below_size (by exact bB)));have n1_ := aM (below_step (by exact bB) hb);clear HB;have HO755 := n0_;have HB := n1_;clear n0_ n1_;(try clear hb);(try clear hb2);(try clear hk);(try clear hi);(try clear ho0)) | ((with_reducible refine gate_dst (N := 3) rfl ?_);refine box_event ?hg (N := 3) ?hd (cs := #[.int .i64 0, .slice none 0 0]) (t := 31) ?hr ?_;(case hd => rfl);(case hg => rfl);(case hr => first | (go_simp;done) | (go_simp;rfl));intro gb757 hg w9 hbox hb;have n0_ := aM (Kd.R_below (by exact rP HO755.out) hb);have n1_ := aM (below_step (by exact bB) hb);have n2_ := aM (hbox);have n3_ := aM ((by rw [hg];exact (below_size (by exact bB)) : w.heap.size ≤ gb757));have n4_ := aM ((by rw [hg];exact (below_size (by exact bB)) : w.heap.size ≤ gb757));clear HO755;clear HB;have HO755 := n0_;have HB := n1_;have BK757 := n2_;have GW757 := n3_;have GE757 := n4_;clear n0_ n1_ n2_ n3_ n4_;clear hb hbox hg;have hcz10_0 : w9.cell? ⟨gb757, 0, none⟩ = some (.int .i64 0) := (blk_cell BK757.out 0).trans rfl;have hcz10_1 : w9.cell? ⟨gb757, 1, none⟩ = some (.slice none 0 0) := (blk_cell BK757.out 1).trans rfl;have hfz10_0 := blk_frozen BK757.out 0;have hfz10_1 := blk_frozen BK757.out 1;obtain ⟨Ao11, co11, eo11⟩ := Kd.R_slice HO755.out;subst eo11) | ((with_reducible refine gate_callee (f := 31) rfl ?_);refine goesL_ (some 25) rfl rfl Try.func31 (by kernel_rfl) rfl #[.agg #[.int .i64 t752, .slice Ao11 t753.length co11], .int .i64 t756] rfl mM ?_;(with_reducible refine (impl_SavedSum.calls k t752 _ _ t753 t756 t758 t759 _ ?side1 ?side2 A5.out).mono ?_);(case side1 => refine (Kd.R_reads' (e := 119) (base := w.heap.size) (ok := fun k_ => True) (n := t753.length) (c := co11) ?_).2.2;exact (by refine rP ?_;exact (Kd.R_mono (Kd.R_far (p := ⟨gb757, 1, none⟩) (Kd.R_far (p := ⟨gb757, 0, none⟩) (Kd.R_types HO755.out BK757.out (by decide)) (fun _ hk => hk.2) (.int .i64 t752)) (fun _ hk => hk.2) (.slice Ao11 t753.length co11)) (fun _ h_ => h_.1))));(case side2 => exact (Kd.R_reads' HO755.out).2.1);rintro e w12 ⟨rfl, hb⟩;refine ⟨_, rfl, ?_⟩;have n0_ := aM (Kd.R_below (by exact rP ((Kd.R_mono (Kd.R_far (p := ⟨gb757, 1, none⟩) (Kd.R_far (p := ⟨gb757, 0, none⟩) (Kd.R_types HO755.out BK757.out (by decide)) (fun _ hk => hk.2) (.int .i64 t752)) (fun _ hk => hk.2) (.slice Ao11 t753.length co11)) (fun _ h_ => h_.1)))) hb);have n1_ := aM (blk_below (g := gb757) (o := .cells #[.int .i64 t752, .slice Ao11 t753.length co11] 31 (0, 0)) (by refine kP ?_;refine blk_put (cs := #[.int .i64 t752, .slice none 0 0]) ?_ 1 _ rfl;refine kP ?_;refine blk_put (cs := #[.int .i64 0, .slice none 0 0]) ?_ 0 _ rfl;exact kP BK757.out) hb);have n2_ := aM (below_step (by exact bB) hb);clear HO755;clear BK757;clear HB;have HO755 := n0_;have BK757 := n1_;have HB := n2_;clear n0_ n1_ n2_;(try clear hb);(try clear hb2);(try clear hk);(try clear hi);have hcz13_0 : w12.cell? ⟨gb757, 0, none⟩ = some (.int .i64 t752) := (blk_cell BK757.out 0).trans rfl;have hcz13_1 : w12.cell? ⟨gb757, 1, none⟩ = some (.slice Ao11 t753.length co11) := (blk_cell BK757.out 1).trans rfl;have hfz13_0 := blk_frozen BK757.out 0;have hfz13_1 := blk_frozen BK757.out 1) | ((with_reducible refine gate_callee (f := 32) rfl ?_);refine goesL_ (some 31) rfl rfl Try.func32 (by kernel_rfl) rfl #[.agg #[.int .i64 t752, .slice Ao11 t753.length co11], .int .i64 t756] rfl mM ?_;(with_reducible refine (spec_SavedSum.calls k t752 _ _ t753 t756 t760 t761 _ ?side1 ?side2 A6.out).mono ?_);(case side1 => exact cP (Kd.R_reads' HO755.out).2.2);(case side2 => exact (Kd.R_reads' HO755.out).2.1);rintro e w14 ⟨rfl, hb⟩;refine ⟨_, rfl, ?_⟩;have n0_ := aM (Kd.R_below (by exact rP HO755.out) hb);have n1_ := aM (blk_below (g := gb757) (o := .cells #[.int .i64 t752, .slice Ao11 t753.length co11] 31 (0, 0)) (by exact kP BK757.out) hb);have n2_ := aM (below_step (by exact bB) hb);clear HO755;clear BK757;clear HB;have HO755 := n0_;have BK757 := n1_;have HB := n2_;clear n0_ n1_ n2_;(try clear hb);(try clear hb2);(try clear hk);(try clear hi)))
 (try simp only [Act.put, List.setIfInBounds_toArray, List.set_cons_zero, List.set_cons_succ])
 go_cut [41] (fun v41 wc => ∃ (kq : Nat) (x41_6 : Bool), v41 = .bool x41_6 ∧ Aside0 (laws_FnSavedSum.j0 kq t756 t758 t759 x41_6 t752 t753 = some r) ∧ Aside0 (kq ≤ k) ∧ Aside0 (Kd.R k119 119 wc w.heap.size (fun _ => True) (.slice Ao11 t753.length co11) t753) ∧ Aside0 (wc.heap[gb757]? = some (.cells #[.int .i64 t752, (.slice Ao11 t753.length co11)] 31 (0, 0))) ∧ Aside0 (Below w.heap.size w wc))
 case first =>
  have H := HC7.out
  clear HC7
  by_cases c15 : t758 = t760
  rotate_left
  ·rw [if_neg c15] at H
   have c15b0 : (t758 == t760) = false := beq_eq_false_iff_ne.mpr c15
   have c15b1 : (t758 != t760) = true := bne_iff_ne.mpr c15
   (first | rw [c15b0] | (simp only [i64_w, i32_w];rw [c15b0]) | skip)
   have H' := Aside0.mk H
   clear H
   go_wp2
   go_meet
   case rel => exact ⟨_, (true), (by first | rfl | (simp;done) | (simp [*];done)), H', ⟨by first | omega | exact Nat.le_refl _⟩, ⟨by exact rP HO755.out⟩, ⟨by exact kP BK757.out⟩, ⟨by exact bB⟩⟩
  rw [if_pos c15] at H
  have c15b0 : (t758 == t760) = true := beq_iff_eq.mpr c15
  have c15b1 : (t758 != t760) = false := bne_eq_false_iff_eq.mpr c15
  clear c15
  (first | rw [c15b0] | (simp only [i64_w, i32_w];rw [c15b0]) | skip)
  have H' := Aside0.mk H
  clear H
  go_wp2
  go_meet
  case rel => exact ⟨_, ((t759 != t761)), (by first | rfl | (simp;done) | (simp [*];done)), H', ⟨by first | omega | exact Nat.le_refl _⟩, ⟨by exact rP HO755.out⟩, ⟨by exact kP BK757.out⟩, ⟨by exact bB⟩⟩
 case rest =>
  clear HC7
  try clear c1
  try clear c2
  try clear p2
  try clear c3
  try clear c6
  try clear c15
  try clear c15b0
  try clear c15b1
  try clear hcz10_0
  try clear hcz10_1
  try clear hcz13_0
  try clear hcz13_1
  try clear hfz10_0
  try clear hfz10_1
  try clear hfz13_0
  try clear hfz13_1
  obtain ⟨kq, x41_6, rfl, HA, HJ6, HO_758001, BK757, HB⟩ := hcut
  cases kq with
  | zero => exact absurd HA.out (by simp [laws_FnSavedSum.j0])
  | succ kj6 =>
   have H := HA.out
   clear HA
   simp only [laws_FnSavedSum.j0] at H
   by_cases c16 : x41_6 = true
   ·subst c16
    have H1 : (some false) = some r := by rw [if_pos rfl] at H;exact H
    clear H
    have H := H1
    clear H1
    obtain rfl := Option.some.inj H
    go_wp2
    go_ret
    exact ⟨by first | rfl | (simp [errW_none, errW_some] <;> rfl) | (simp [*, errW_none, errW_some] <;> rfl), by exact bB⟩
   replace c16 := Bool.eq_false_iff.mpr c16
   subst c16
   have H1 : (if t759 = true then (laws_FnSavedSum.l0 kj6 t756 t758 0 0 t752 t753) else (some true)) = some r := by rw [if_neg (show ¬ (false = true) by decide)] at H;exact H
   clear H
   have H := H1
   clear H1
   by_cases c17 : t759 = true
   rotate_left
   ·replace c17 := Bool.eq_false_iff.mpr c17
    subst c17
    have H1 : (some true) = some r := by rw [if_neg (show ¬ (false = true) by decide)] at H;exact H
    clear H
    have H := H1
    clear H1
    obtain rfl := Option.some.inj H
    go_wp2
    go_ret
    exact ⟨by first | rfl | (simp [errW_none, errW_some] <;> rfl) | (simp [*, errW_none, errW_some] <;> rfl), by exact bB⟩
   subst c17
   have H1 : (laws_FnSavedSum.l0 kj6 t756 t758 0 0 t752 t753) = some r := by rw [if_pos rfl] at H;exact H
   clear H
   have H := H1
   clear H1
   have H' := Aside0.mk H
   clear H
   go_wp2
   go_loopg [9, 10] kj6 (fun kq v9 v10 w' => ∃ (x9_2 : Int) (x10_2 : Int), v9 = .int .i64 x9_2 ∧ v10 = .int .i64 x10_2 ∧ Aside0 (laws_FnSavedSum.l0 kq t756 t758 x9_2 x10_2 t752 t753 = some r) ∧ Aside0 (kq ≤ kj6) ∧ Aside0 (Kd.R k119 119 w' w.heap.size (fun _ => True) (.slice Ao11 t753.length co11) t753) ∧ Aside0 (w'.heap[gb757]? = some (.cells #[.int .i64 t752, (.slice Ao11 t753.length co11)] 31 (0, 0))) ∧ Aside0 (Below w.heap.size w w'))
   case atStart => exact ⟨(0), (0), (by first | rfl | (simp;done) | (simp [*];done)), (by first | rfl | (simp;done) | (simp [*];done)), H', ⟨Nat.le_refl _⟩, ⟨by exact rP HO_758001.out⟩, ⟨by exact kP BK757.out⟩, ⟨by exact bB⟩⟩
   case round =>
    clear H'
    try clear c1
    try clear c2
    try clear p2
    try clear c3
    try clear c6
    try clear c15
    try clear c15b0
    try clear c15b1
    try clear c16
    try clear c17
    try clear hcz10_0
    try clear hcz10_1
    try clear hcz13_0
    try clear hcz13_1
    try clear hfz10_0
    try clear hfz10_1
    try clear hfz13_0
    try clear hfz13_1
    try clear p2
    obtain ⟨x9_2, x10_2, rfl, rfl, HA, HK2, HO_758001, BK757, HB⟩ := hrel
    cases gk with
    | zero => exact absurd HA.out (by simp [laws_FnSavedSum.l0])
    | succ k2 =>
     have H := HA.out
     clear HA
     simp only [laws_FnSavedSum.l0] at H
     by_cases c18 : x10_2 < t752
     rotate_left
     ·rw [if_neg c18] at H
      have c18b0 : decide (x10_2 < t752) = false := decide_eq_false c18
      clear c18
      obtain rfl := Option.some.inj H
      have hcz40_0 : wr.cell? ⟨gb757, 0, none⟩ = some (.int .i64 t752) := (blk_cell BK757.out 0).trans rfl
      have hcz40_1 : wr.cell? ⟨gb757, 1, none⟩ = some (.slice Ao11 t753.length co11) := (blk_cell BK757.out 1).trans rfl
      have hfz40_0 := blk_frozen BK757.out 0
      have hfz40_1 := blk_frozen BK757.out 1
      go_wp2
      go_ret
      exact ⟨by first | rfl | (simp [errW_none, errW_some] <;> rfl) | (simp [*, errW_none, errW_some] <;> rfl), by exact bB⟩
     rw [if_pos c18] at H
     have c18b0 : decide (x10_2 < t752) = true := decide_eq_true c18
     clear c18
     replace H := Option.bind_eq_some_iff.mp H
     obtain ⟨⟨t762, t763⟩, A190, H⟩ := H
     replace H : ((spec_MostSaved.f k2 t752 t753 x10_2 t756).bind fun bt764 => (if t763 = true then (if bt764.2 = true then (if t762 = bt764.1 then (laws_FnSavedSum.l0 k2 t756 t758 (wrap64 (x9_2 + t762)) (wrap64 (x10_2 + 1)) t752 t753) else (some false)) else (some false)) else (some false))) = some r := H
     have A19 := Aside0.mk A190
     clear A190
     replace H := Option.bind_eq_some_iff.mp H
     obtain ⟨⟨t764, t765⟩, A200, H⟩ := H
     replace H : (if t763 = true then (if t765 = true then (if t762 = t764 then (laws_FnSavedSum.l0 k2 t756 t758 (wrap64 (x9_2 + t762)) (wrap64 (x10_2 + 1)) t752 t753) else (some false)) else (some false)) else (some false)) = some r := H
     have A20 := Aside0.mk A200
     clear A200
     by_cases c21 : t763 = true
     rotate_left
     ·replace c21 := Bool.eq_false_iff.mpr c21
      subst c21
      have H1 : (some false) = some r := by rw [if_neg (show ¬ (false = true) by decide)] at H;exact H
      clear H
      have H := H1
      clear H1
      obtain rfl := Option.some.inj H
      have hcz36_0 : wr.cell? ⟨gb757, 0, none⟩ = some (.int .i64 t752) := (blk_cell BK757.out 0).trans rfl
      have hcz36_1 : wr.cell? ⟨gb757, 1, none⟩ = some (.slice Ao11 t753.length co11) := (blk_cell BK757.out 1).trans rfl
      have hfz36_0 := blk_frozen BK757.out 0
      have hfz36_1 := blk_frozen BK757.out 1
      go_wp2_with (first | ((with_reducible refine gate_callee (f := 33) rfl ?_);refine goesL_ (some 54) rfl rfl Try.func33 (by kernel_rfl) rfl #[.agg #[.int .i64 t752, .slice Ao11 t753.length co11], .int .i64 x10_2, .int .i64 t756] rfl mM ?_;(with_reducible refine (impl_MostSaved.calls k2 t752 _ _ t753 x10_2 t756 t762 false _ ?side1 ?side2 A19.out).mono ?_);(case side1 => exact cP (Kd.R_reads' HO_758001.out).2.2);(case side2 => exact (Kd.R_reads' HO_758001.out).2.1);rintro e w37 ⟨rfl, hb⟩;refine ⟨_, rfl, ?_⟩;have n0_ := aM (Kd.R_below (by exact rP HO_758001.out) hb);have n1_ := aM (blk_below (g := gb757) (o := .cells #[.int .i64 t752, .slice Ao11 t753.length co11] 31 (0, 0)) (by exact kP BK757.out) hb);have n2_ := aM (below_step (by exact bB) hb);clear HO_758001;clear BK757;clear HB;have HO_758001 := n0_;have BK757 := n1_;have HB := n2_;clear n0_ n1_ n2_;(try clear hb);(try clear hb2);(try clear hk);(try clear hi);have hcz38_0 : w37.cell? ⟨gb757, 0, none⟩ = some (.int .i64 t752) := (blk_cell BK757.out 0).trans rfl;have hcz38_1 : w37.cell? ⟨gb757, 1, none⟩ = some (.slice Ao11 t753.length co11) := (blk_cell BK757.out 1).trans rfl;have hfz38_0 := blk_frozen BK757.out 0;have hfz38_1 := blk_frozen BK757.out 1) | ((with_reducible refine gate_callee (f := 34) rfl ?_);refine goesL_ (some 61) rfl rfl Try.func34 (by kernel_rfl) rfl #[.agg #[.int .i64 t752, .slice Ao11 t753.length co11], .int .i64 x10_2, .int .i64 t756] rfl mM ?_;(with_reducible refine (spec_MostSaved.calls k2 t752 _ _ t753 x10_2 t756 t764 t765 _ ?side1 ?side2 A20.out).mono ?_);(case side1 => exact cP (Kd.R_reads' HO_758001.out).2.2);(case side2 => exact (Kd.R_reads' HO_758001.out).2.1);rintro e w39 ⟨rfl, hb⟩;refine ⟨_, rfl, ?_⟩;have n0_ := aM (Kd.R_below (by exact rP HO_758001.out) hb);have n1_ := aM (blk_below (g := gb757) (o := .cells #[.int .i64 t752, .slice Ao11 t753.length co11] 31 (0, 0)) (by exact kP BK757.out) hb);have n2_ := aM (below_step (by exact bB) hb);clear HO_758001;clear BK757;clear HB;have HO_758001 := n0_;have BK757 := n1_;have HB := n2_;clear n0_ n1_ n2_;(try clear hb);(try clear hb2);(try clear hk);(try clear hi)))
      go_ret
      exact ⟨by first | rfl | (simp [errW_none, errW_some] <;> rfl) | (simp [*, errW_none, errW_some] <;> rfl), by exact bB⟩
     subst c21
     have H1 : (if t765 = true then (if t762 = t764 then (laws_FnSavedSum.l0 k2 t756 t758 (wrap64 (x9_2 + t762)) (wrap64 (x10_2 + 1)) t752 t753) else (some false)) else (some false)) = some r := by rw [if_pos rfl] at H;exact H
     clear H
     have H := H1
     clear H1
     by_cases c22 : t765 = true
     rotate_left
     ·replace c22 := Bool.eq_false_iff.mpr c22
      subst c22
      have H1 : (some false) = some r := by rw [if_neg (show ¬ (false = true) by decide)] at H;exact H
      clear H
      have H := H1
      clear H1
      obtain rfl := Option.some.inj H
      have hcz32_0 : wr.cell? ⟨gb757, 0, none⟩ = some (.int .i64 t752) := (blk_cell BK757.out 0).trans rfl
      have hcz32_1 : wr.cell? ⟨gb757, 1, none⟩ = some (.slice Ao11 t753.length co11) := (blk_cell BK757.out 1).trans rfl
      have hfz32_0 := blk_frozen BK757.out 0
      have hfz32_1 := blk_frozen BK757.out 1
      go_wp2_with (first | ((with_reducible refine gate_callee (f := 33) rfl ?_);refine goesL_ (some 54) rfl rfl Try.func33 (by kernel_rfl) rfl #[.agg #[.int .i64 t752, .slice Ao11 t753.length co11], .int .i64 x10_2, .int .i64 t756] rfl mM ?_;(with_reducible refine (impl_MostSaved.calls k2 t752 _ _ t753 x10_2 t756 t762 true _ ?side1 ?side2 A19.out).mono ?_);(case side1 => exact cP (Kd.R_reads' HO_758001.out).2.2);(case side2 => exact (Kd.R_reads' HO_758001.out).2.1);rintro e w33 ⟨rfl, hb⟩;refine ⟨_, rfl, ?_⟩;have n0_ := aM (Kd.R_below (by exact rP HO_758001.out) hb);have n1_ := aM (blk_below (g := gb757) (o := .cells #[.int .i64 t752, .slice Ao11 t753.length co11] 31 (0, 0)) (by exact kP BK757.out) hb);have n2_ := aM (below_step (by exact bB) hb);clear HO_758001;clear BK757;clear HB;have HO_758001 := n0_;have BK757 := n1_;have HB := n2_;clear n0_ n1_ n2_;(try clear hb);(try clear hb2);(try clear hk);(try clear hi);have hcz34_0 : w33.cell? ⟨gb757, 0, none⟩ = some (.int .i64 t752) := (blk_cell BK757.out 0).trans rfl;have hcz34_1 : w33.cell? ⟨gb757, 1, none⟩ = some (.slice Ao11 t753.length co11) := (blk_cell BK757.out 1).trans rfl;have hfz34_0 := blk_frozen BK757.out 0;have hfz34_1 := blk_frozen BK757.out 1) | ((with_reducible refine gate_callee (f := 34) rfl ?_);refine goesL_ (some 61) rfl rfl Try.func34 (by kernel_rfl) rfl #[.agg #[.int .i64 t752, .slice Ao11 t753.length co11], .int .i64 x10_2, .int .i64 t756] rfl mM ?_;(with_reducible refine (spec_MostSaved.calls k2 t752 _ _ t753 x10_2 t756 t764 false _ ?side1 ?side2 A20.out).mono ?_);(case side1 => exact cP (Kd.R_reads' HO_758001.out).2.2);(case side2 => exact (Kd.R_reads' HO_758001.out).2.1);rintro e w35 ⟨rfl, hb⟩;refine ⟨_, rfl, ?_⟩;have n0_ := aM (Kd.R_below (by exact rP HO_758001.out) hb);have n1_ := aM (blk_below (g := gb757) (o := .cells #[.int .i64 t752, .slice Ao11 t753.length co11] 31 (0, 0)) (by exact kP BK757.out) hb);have n2_ := aM (below_step (by exact bB) hb);clear HO_758001;clear BK757;clear HB;have HO_758001 := n0_;have BK757 := n1_;have HB := n2_;clear n0_ n1_ n2_;(try clear hb);(try clear hb2);(try clear hk);(try clear hi)))
      go_ret
      exact ⟨by first | rfl | (simp [errW_none, errW_some] <;> rfl) | (simp [*, errW_none, errW_some] <;> rfl), by exact bB⟩
     subst c22
     have H1 : (if t762 = t764 then (laws_FnSavedSum.l0 k2 t756 t758 (wrap64 (x9_2 + t762)) (wrap64 (x10_2 + 1)) t752 t753) else (some false)) = some r := by rw [if_pos rfl] at H;exact H
     clear H
     have H := H1
     clear H1
     by_cases c23 : t762 = t764
     rotate_left
     ·rw [if_neg c23] at H
      have c23b0 : (t762 == t764) = false := beq_eq_false_iff_ne.mpr c23
      have c23b1 : (t762 != t764) = true := bne_iff_ne.mpr c23
      obtain rfl := Option.some.inj H
      have hcz28_0 : wr.cell? ⟨gb757, 0, none⟩ = some (.int .i64 t752) := (blk_cell BK757.out 0).trans rfl
      have hcz28_1 : wr.cell? ⟨gb757, 1, none⟩ = some (.slice Ao11 t753.length co11) := (blk_cell BK757.out 1).trans rfl
      have hfz28_0 := blk_frozen BK757.out 0
      have hfz28_1 := blk_frozen BK757.out 1
      go_wp2_with (first | ((with_reducible refine gate_callee (f := 33) rfl ?_);refine goesL_ (some 54) rfl rfl Try.func33 (by kernel_rfl) rfl #[.agg #[.int .i64 t752, .slice Ao11 t753.length co11], .int .i64 x10_2, .int .i64 t756] rfl mM ?_;(with_reducible refine (impl_MostSaved.calls k2 t752 _ _ t753 x10_2 t756 t762 true _ ?side1 ?side2 A19.out).mono ?_);(case side1 => exact cP (Kd.R_reads' HO_758001.out).2.2);(case side2 => exact (Kd.R_reads' HO_758001.out).2.1);rintro e w29 ⟨rfl, hb⟩;refine ⟨_, rfl, ?_⟩;have n0_ := aM (Kd.R_below (by exact rP HO_758001.out) hb);have n1_ := aM (blk_below (g := gb757) (o := .cells #[.int .i64 t752, .slice Ao11 t753.length co11] 31 (0, 0)) (by exact kP BK757.out) hb);have n2_ := aM (below_step (by exact bB) hb);clear HO_758001;clear BK757;clear HB;have HO_758001 := n0_;have BK757 := n1_;have HB := n2_;clear n0_ n1_ n2_;(try clear hb);(try clear hb2);(try clear hk);(try clear hi);have hcz30_0 : w29.cell? ⟨gb757, 0, none⟩ = some (.int .i64 t752) := (blk_cell BK757.out 0).trans rfl;have hcz30_1 : w29.cell? ⟨gb757, 1, none⟩ = some (.slice Ao11 t753.length co11) := (blk_cell BK757.out 1).trans rfl;have hfz30_0 := blk_frozen BK757.out 0;have hfz30_1 := blk_frozen BK757.out 1) | ((with_reducible refine gate_callee (f := 34) rfl ?_);refine goesL_ (some 61) rfl rfl Try.func34 (by kernel_rfl) rfl #[.agg #[.int .i64 t752, .slice Ao11 t753.length co11], .int .i64 x10_2, .int .i64 t756] rfl mM ?_;(with_reducible refine (spec_MostSaved.calls k2 t752 _ _ t753 x10_2 t756 t764 true _ ?side1 ?side2 A20.out).mono ?_);(case side1 => exact cP (Kd.R_reads' HO_758001.out).2.2);(case side2 => exact (Kd.R_reads' HO_758001.out).2.1);rintro e w31 ⟨rfl, hb⟩;refine ⟨_, rfl, ?_⟩;have n0_ := aM (Kd.R_below (by exact rP HO_758001.out) hb);have n1_ := aM (blk_below (g := gb757) (o := .cells #[.int .i64 t752, .slice Ao11 t753.length co11] 31 (0, 0)) (by exact kP BK757.out) hb);have n2_ := aM (below_step (by exact bB) hb);clear HO_758001;clear BK757;clear HB;have HO_758001 := n0_;have BK757 := n1_;have HB := n2_;clear n0_ n1_ n2_;(try clear hb);(try clear hb2);(try clear hk);(try clear hi)))
      go_ret
      exact ⟨by first | rfl | (simp [errW_none, errW_some] <;> rfl) | (simp [*, errW_none, errW_some] <;> rfl), by exact bB⟩
     rw [if_pos c23] at H
     have c23b0 : (t762 == t764) = true := beq_iff_eq.mpr c23
     have c23b1 : (t762 != t764) = false := bne_eq_false_iff_eq.mpr c23
     clear c23
     have H' := Aside0.mk H
     clear H
     have hcz24_0 : wr.cell? ⟨gb757, 0, none⟩ = some (.int .i64 t752) := (blk_cell BK757.out 0).trans rfl
     have hcz24_1 : wr.cell? ⟨gb757, 1, none⟩ = some (.slice Ao11 t753.length co11) := (blk_cell BK757.out 1).trans rfl
     have hfz24_0 := blk_frozen BK757.out 0
     have hfz24_1 := blk_frozen BK757.out 1
     go_wp2_with (first | ((with_reducible refine gate_callee (f := 33) rfl ?_);refine goesL_ (some 54) rfl rfl Try.func33 (by kernel_rfl) rfl #[.agg #[.int .i64 t752, .slice Ao11 t753.length co11], .int .i64 x10_2, .int .i64 t756] rfl mM ?_;(with_reducible refine (impl_MostSaved.calls k2 t752 _ _ t753 x10_2 t756 t762 true _ ?side1 ?side2 A19.out).mono ?_);(case side1 => exact cP (Kd.R_reads' HO_758001.out).2.2);(case side2 => exact (Kd.R_reads' HO_758001.out).2.1);rintro e w25 ⟨rfl, hb⟩;refine ⟨_, rfl, ?_⟩;have n0_ := aM (Kd.R_below (by exact rP HO_758001.out) hb);have n1_ := aM (blk_below (g := gb757) (o := .cells #[.int .i64 t752, .slice Ao11 t753.length co11] 31 (0, 0)) (by exact kP BK757.out) hb);have n2_ := aM (below_step (by exact bB) hb);clear HO_758001;clear BK757;clear HB;have HO_758001 := n0_;have BK757 := n1_;have HB := n2_;clear n0_ n1_ n2_;(try clear hb);(try clear hb2);(try clear hk);(try clear hi);have hcz26_0 : w25.cell? ⟨gb757, 0, none⟩ = some (.int .i64 t752) := (blk_cell BK757.out 0).trans rfl;have hcz26_1 : w25.cell? ⟨gb757, 1, none⟩ = some (.slice Ao11 t753.length co11) := (blk_cell BK757.out 1).trans rfl;have hfz26_0 := blk_frozen BK757.out 0;have hfz26_1 := blk_frozen BK757.out 1) | ((with_reducible refine gate_callee (f := 34) rfl ?_);refine goesL_ (some 61) rfl rfl Try.func34 (by kernel_rfl) rfl #[.agg #[.int .i64 t752, .slice Ao11 t753.length co11], .int .i64 x10_2, .int .i64 t756] rfl mM ?_;(with_reducible refine (spec_MostSaved.calls k2 t752 _ _ t753 x10_2 t756 t764 true _ ?side1 ?side2 A20.out).mono ?_);(case side1 => exact cP (Kd.R_reads' HO_758001.out).2.2);(case side2 => exact (Kd.R_reads' HO_758001.out).2.1);rintro e w27 ⟨rfl, hb⟩;refine ⟨_, rfl, ?_⟩;have n0_ := aM (Kd.R_below (by exact rP HO_758001.out) hb);have n1_ := aM (blk_below (g := gb757) (o := .cells #[.int .i64 t752, .slice Ao11 t753.length co11] 31 (0, 0)) (by exact kP BK757.out) hb);have n2_ := aM (below_step (by exact bB) hb);clear HO_758001;clear BK757;clear HB;have HO_758001 := n0_;have BK757 := n1_;have HB := n2_;clear n0_ n1_ n2_;(try clear hb);(try clear hb2);(try clear hk);(try clear hi)))
     go_roundg k2
     case measure => have := HJ6.out;have := HK2.out;omega
     case rel => exact ⟨(wrap64 (x9_2 + t762)), (wrap64 (x10_2 + 1)), (by first | rfl | (simp;done) | (simp [*];done)), (by first | rfl | (simp;done) | (simp [*];done)), H', ⟨by have := HJ6.out;have := HK2.out;omega⟩, ⟨by exact rP HO_758001.out⟩, ⟨by exact kP BK757.out⟩, ⟨by exact bB⟩⟩

def laws_FnSavedSum.Pure : Prop := ∀ (l0 : List Int), l0.length ≤ maxLen → l0.length * 1 ≤ 140737488351232 → (∀ x ∈ l0, (Lit.int .u8 x).wf = true) → ∃ k, laws_FnSavedSum.f k l0 = some true
theorem laws_FnSavedSum.walk (P : laws_FnSavedSum.Pure) (a0 : Option Addr) (len0 cap0 : Nat) (z0 : List Int) (w : World) (w0 : (a0 = none ∧ len0 = 0 ∧ cap0 = 0 ∧ z0 = []) ∨ ∃ x, a0 = some x ∧ len0 ≤ cap0 ∧ cap0 ≤ maxLen ∧ z0.length = cap0 ∧ (∀ i, i < z0.length → w.cell? (x.add i) = some (.int .u8 (z0.getD i 0))) ∧ ∀ n ∈ z0, (Lit.int .u8 n).wf = true) (y0 : len0 * 1 ≤ 140737488351232) :
  Calls Try.prog 6 #[.slice a0 len0 cap0] w fun e w' => e = .returned (.bool true) ∧ Below w.heap.size w w' := by
 obtain ⟨l0, rfl, hr0, hm0, hw0, hc0⟩ := ReadsInt.ofRowC w0
 obtain ⟨k, h⟩ := P l0 hm0 y0 hw0
 refine (laws_FnSavedSum.calls k _ _ l0 true w (Kd.C_of_reads (d := (0 : Int)) (h1 := fun _ => rfl) hr0) hc0 h).mono ?_
 rintro e w' ⟨rfl, hd⟩
 exact ⟨rfl, hd⟩


end Go.Proofs.Ytmokkhfmbenleaa.QSavedSum
