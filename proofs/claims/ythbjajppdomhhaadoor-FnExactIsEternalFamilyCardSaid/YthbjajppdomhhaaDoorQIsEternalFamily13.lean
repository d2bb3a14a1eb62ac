import Derived.Test.YthbjajppdomhhaaDoorQIsEternalFamily0
import Derived.Test.YthbjajppdomhhaaDoorQIsEternalFamily11
import Derived.Test.YthbjajppdomhhaaDoorQIsEternalFamily12
namespace Go.Proofs.YthbjajppdomhhaaDoor.QIsEternalFamily
open Go.RowKit Go.Proofs.YthbjajppdomhhaaDoorW.PrintWords Go.Proofs.YthbjajppdomhhaaDoorW.PrintLast Go.Proofs.YthbjajppdomhhaaDoorW.PrintMore
attribute [local go_sem] max2_int min2_int max_two min_two max_three min_three max_four min_four   -- for this text's walks alone
set_option linter.unusedVariables false
set_option linter.unusedSimpArgs false
/-! ### impl_isEternalFamilyC2: function 99 -/
def impl_isEternalFamilyC2.f (k : Nat) (l0 : List Int) (a1_0 : Int) (l2_0 : List Int) (l3_0 : List Int) (a4_0 : Bool) : Option (Bool) := (slices_Contains_int_int.f k l0 a1_0).bind fun t504 => (if t504 = true then ((impl_maskOf.f k l3_0).bind fun t505 => ((impl_maskOf.f k l0).bind fun t506 => ((impl_net_canMoveGuards.f k l2_0 t505 t506 a4_0).bind fun t507 => (some t507)))) else (some false))
theorem impl_isEternalFamilyC2.mono : ∀ a0 a1 a2 a3 a4 k, LeO (impl_isEternalFamilyC2.f k a0 a1 a2 a3 a4) (impl_isEternalFamilyC2.f (k + 1) a0 a1 a2 a3 a4) := by
 intro a0 a1 a2 a3 a4 k
 unfold impl_isEternalFamilyC2.f
 repeat' first
   | (with_reducible exact impl_maskOf.mono _ _)
   | (with_reducible exact impl_net_canMoveGuards.mono _ _ _ _ _)
   | (with_reducible exact slices_Contains_int_int.mono _ _ _)
   | (with_reducible exact LeO.refl _)
   | (with_reducible exact LeO.none _)
   | (with_reducible refine LeO.ite ?_ ?_)
   | (with_reducible refine LeO.bind ?_ (fun _ => ?_))
   | exact impl_maskOf.mono _ _
   | exact impl_net_canMoveGuards.mono _ _ _ _ _
   | exact slices_Contains_int_int.mono _ _ _
   | exact LeO.none _
   | refine LeO.ite ?_ ?_
   | refine LeO.bind ?_ (fun _ => ?_)
def impl_isEternalFamilyC2.T1 : Bool × List (List Nat × List Nat) := (true, [([], []), ([], []), ([0, 1], [0, 1]), ([2, 2], [2]), ([3], [3]), ([3], [3]), ([5, 3, 3], [3, 5]), ([3], [3]), ([7, 6, 3], [3, 7]), ([3], [3]), ([4, 6, 8, 9, 8, 3], [3, 4, 6, 8, 9]), ([3, 10], [3, 10]), ([11, 10, 0, 1, 2, 3, 4, 5, 6, 7, 8, 9, 10, 11], [11])])
def impl_isEternalFamilyC2.B1 : List Nat := [0, 0, 3, 7, 15, 15, 47, 15, 143, 15, 1023, 2047, 4095]
theorem impl_isEternalFamilyC2.tab1 : rtab .any (opsOf Tryd.f99 1) = impl_isEternalFamilyC2.T1 := by kernel_rfl
theorem impl_isEternalFamilyC2.bits1 : waitsOk impl_isEternalFamilyC2.T1.2 impl_isEternalFamilyC2.B1 = true := by kernel_rfl
set_option maxHeartbeats 8000000 in
set_option maxRecDepth 100000 in
theorem impl_isEternalFamilyC2.calls (gb500 gb501 gb502 gb503 : Nat) (k : Nat) (A0 : Option Addr) (c0 : Nat) (l0 : List Int) (a1_0 : Int) (A2_0 : Option Addr) (c2_0 : Nat) (l2_0 : List Int) (A3_0 : Option Addr) (c3_0 : Nat) (l3_0 : List Int) (a4_0 : Bool) (r : Bool) (w : World) (hT : TabG w) (hr0 : Kd.C (Kd.int .i64) w A0 l0.length l0) (hc0 : l0.length ≤ c0) (hr2_0 : Kd.C (Kd.int .i64) w A2_0 l2_0.length l2_0) (hc2_0 : l2_0.length ≤ c2_0) (hr3_0 : Kd.C (Kd.int .i64) w A3_0 l3_0.length l3_0) (hc3_0 : l3_0.length ≤ c3_0) (hb500 : w.heap[gb500]? = some (.cells #[.int .i64 a1_0] 3 (0, 0))) (hb501 : w.heap[gb501]? = some (.cells #[.slice A2_0 l2_0.length c2_0] 62 (0, 0))) (hb502 : w.heap[gb502]? = some (.cells #[.slice A3_0 l3_0.length c3_0] 32 (0, 0))) (hb503 : w.heap[gb503]? = some (.cells #[.bool a4_0] 4 (0, 0))) (h : impl_isEternalFamilyC2.f k l0 a1_0 l2_0 l3_0 a4_0 = some r) :
  Calls Tryd.prog 99 #[.slice A0 l0.length c0, .pointer (some ⟨gb500, 0, none⟩), .pointer (some ⟨gb501, 0, none⟩), .pointer (some ⟨gb502, 0, none⟩), .pointer (some ⟨gb503, 0, none⟩)] w fun e w' => e = .returned (.bool r) ∧ Below w.heap.size w w' := by
 have hu88 := Tryd.underlying3
 have hu62 := Tryd.underlying62
 have hu13 := Tryd.underlying32
 have hu18 := Tryd.underlying4
 have HR0 := Aside0.mk hr0
 have HC0 := Aside0.mk hc0
 clear hr0 hc0
 have HR2_0 := Aside0.mk hr2_0
 have HC2_0 := Aside0.mk hc2_0
 clear hr2_0 hc2_0
 have HR3_0 := Aside0.mk hr3_0
 have HC3_0 := Aside0.mk hc3_0
 clear hr3_0 hc3_0
 have HB := Aside0.mk (Below.refl w.heap.size w)
 have HT := Aside0.mk hT
 clear hT
 have BK500 := Aside0.mk hb500
 have hczb500_0 : w.cell? ⟨gb500, 0, none⟩ = some (.int .i64 a1_0) := (blk_cell hb500 0).trans rfl
 have hfzb500_0 := blk_frozen hb500 0
 clear hb500
 have BK501 := Aside0.mk hb501
 have hczb501_0 : w.cell? ⟨gb501, 0, none⟩ = some (.slice A2_0 l2_0.length c2_0) := (blk_cell hb501 0).trans rfl
 have hfzb501_0 := blk_frozen hb501 0
 clear hb501
 have BK502 := Aside0.mk hb502
 have hczb502_0 : w.cell? ⟨gb502, 0, none⟩ = some (.slice A3_0 l3_0.length c3_0) := (blk_cell hb502 0).trans rfl
 have hfzb502_0 := blk_frozen hb502 0
 clear hb502
 have BK503 := Aside0.mk hb503
 have hczb503_0 : w.cell? ⟨gb503, 0, none⟩ = some (.bool a4_0) := (blk_cell hb503 0).trans rfl
 have hfzb503_0 := blk_frozen hb503 0
 clear hb503
 have H : ((slices_Contains_int_int.f k l0 a1_0).bind fun t504 => (if t504 = true then ((impl_maskOf.f k l3_0).bind fun t505 => ((impl_maskOf.f k l0).bind fun t506 => ((impl_net_canMoveGuards.f k l2_0 t505 t506 a4_0).bind fun t507 => (some t507)))) else (some false))) = some r := h
 clear h
 replace H := Option.bind_eq_some_iff.mp H
 obtain ⟨t504, A60, H⟩ := H
 replace H : (if t504 = true then ((impl_maskOf.f k l3_0).bind fun t505 => ((impl_maskOf.f k l0).bind fun t506 => ((impl_net_canMoveGuards.f k l2_0 t505 t506 a4_0).bind fun t507 => (some t507)))) else (some false)) = some r := H
 have A6 := Aside0.mk A60
 clear A60
 by_cases c7 : t504 = true
 ·subst c7
  have H1 : ((impl_maskOf.f k l3_0).bind fun t505 => ((impl_maskOf.f k l0).bind fun t506 => ((impl_net_canMoveGuards.f k l2_0 t505 t506 a4_0).bind fun t507 => (some t507)))) = some r := by rw [if_pos rfl] at H;exact H
  clear H
  have H := H1
  clear H1
  replace H := Option.bind_eq_some_iff.mp H
  obtain ⟨t505, A80, H⟩ := H
  replace H : ((impl_maskOf.f k l0).bind fun t506 => ((impl_net_canMoveGuards.f k l2_0 t505 t506 a4_0).bind fun t507 => (some t507))) = some r := H
  have A8 := Aside0.mk A80
  clear A80
  replace H := Option.bind_eq_some_iff.mp H
  obtain ⟨t506, A90, H⟩ := H
  replace H : ((impl_net_canMoveGuards.f k l2_0 t505 t506 a4_0).bind fun t507 => (some t507)) = some r := H
  have A9 := Aside0.mk A90
  clear A90
  replace H := Option.bind_eq_some_iff.mp H
  obtain ⟨t507, A100, H⟩ := H
  replace H : (some t507) = some r := H
  have A10 := Aside0.mk A100
  clear A100
  obtain rfl := Option.some.inj H
  go_enter Tryd.func99, Tryd.ntmps99
  try go_wp2
  have n0_ := Aside0.mk (blk_drew BK500.out)
  have n1_ := Aside0.mk (blk_drew BK501.out)
  have n2_ := Aside0.mk (blk_drew BK502.out)
  have n3_ := Aside0.mk (blk_drew BK503.out)
  have n4_ := Aside0.mk (below_drew1 HB.out)
  clear BK500
  clear BK501
  clear BK502
  clear BK503
  clear HB
  have BK500 := n0_
  have BK501 := n1_
  have BK502 := n2_
  have BK503 := n3_
  have HB := n4_
  clear n0_ n1_ n2_ n3_ n4_
  refine start_ (n := 13) (S := fun w' => w'.cell? ⟨gb500, 0, none⟩ = some (.int .i64 a1_0) ∧ w'.cell? ⟨gb501, 0, none⟩ = some (.slice A2_0 l2_0.length c2_0) ∧ w'.cell? ⟨gb502, 0, none⟩ = some (.slice A3_0 l3_0.length c3_0) ∧ w'.cell? ⟨gb503, 0, none⟩ = some (.bool a4_0)) (ds := []) #[false,false,false,false,false,false,false,false,false,false,false,false,false] (by kernel_rfl) rfl rfl ⟨(blk_cell BK500.out 0).trans rfl, (blk_cell BK501.out 0).trans rfl, (blk_cell BK502.out 0).trans rfl, (blk_cell BK503.out 0).trans rfl⟩ (fun hHeld => ?_);refine with_tabW impl_isEternalFamilyC2.tab1 impl_isEternalFamilyC2.bits1 (fun HT_ HW_ => ?_)
  generalize w.drew = w15 at BK500 BK501 BK502 BK503 HB hHeld ⊢
  refine pure_ (i := 0) (N := some 7) (v := ?_) (a' := ?_) #[true,false,false,false,false,false,false,false,false,false,false,false,false] rfl rfl (any_of HT_.out (by kernel_rfl)) (fun _ _ _ h => h) (Or.inl ⟨by rfl, ?_⟩) ?_ ?_
  rotate_left
  ·intro w'
   go_simp
   with_reducible rfl
  rotate_left
  ·simp only [Act.put, List.setIfInBounds_toArray, List.set_cons_zero, List.set_cons_succ, i64_w, i32_w]
   rfl
  refine take_ (i := 1) (N := some 8) (v := ?_) (a' := ?_) #[true,true,false,false,false,false,false,false,false,false,false,false,false] rfl rfl (take_ofW HT_.out HW_.out (by kernel_rfl)) (fun _ _ _ h => h) (Or.inl ⟨by rfl, ?_⟩) hHeld ?_ ?_
  rotate_left
  ·rintro w' ⟨s0, s1, s2, s3⟩
   go_simp
   with_reducible rfl
  rotate_left
  ·simp only [Act.put, List.setIfInBounds_toArray, List.set_cons_zero, List.set_cons_succ, i64_w, i32_w]
   rfl
  refine one_ (i := 2) (N := some 9) #[true,true,true,false,false,false,false,false,false,false,false,false,false] rfl rfl (one_of HT_.out (by kernel_rfl)) (by decide) (fun K hK => ?_)
  refine goes_ Tryd.func65 (by kernel_rfl) rfl #[.slice A0 l0.length c0, .int .i64 a1_0] (by rfl) rfl rfl mM ?_
  with_reducible refine (slices_Contains_int_int.calls k _ _ l0 a1_0 true _ ?side1 ?side2 A6.out).mono ?_
  (case side1 => exact cP (Kd.C_below HR0.out HB.out))
  (case side2 => exact HC0.out)
  rintro e w' ⟨rfl, ⟨nd, rfl⟩⟩
  refine ⟨_, rfl, ?_⟩
  refine hK.out _ _ ⟨(blk_cell BK500.out 0).trans rfl, (blk_cell BK501.out 0).trans rfl, (blk_cell BK502.out 0).trans rfl, (blk_cell BK503.out 0).trans rfl⟩ (fun hHeld => ?_)
  clear hK K
  refine norm_ (a' := ?_) ?_ ?_
  rotate_left
  ·show Act.put _ (some 9) _ = _
   simp only [Act.put, List.setIfInBounds_toArray, List.set_cons_zero, List.set_cons_succ, i64_w, i32_w]
   rfl
  refine pure_ (i := 3) (N := some 10) (v := ?_) (a' := ?_) #[true,true,true,true,false,false,false,false,false,false,false,false,false] rfl rfl (any_of HT_.out (by kernel_rfl)) (fun _ _ _ h => h) (Or.inl ⟨by rfl, ?_⟩) ?_ ?_
  rotate_left
  ·intro w'
   go_simp
   with_reducible rfl
  rotate_left
  ·simp only [Act.put, List.setIfInBounds_toArray, List.set_cons_zero, List.set_cons_succ, i64_w, i32_w]
   rfl
  refine pure_ (i := 7) (N := some 14) (v := ?_) (a' := ?_) #[true,true,true,true,false,false,false,true,false,false,false,false,false] rfl rfl (any_of HT_.out (by kernel_rfl)) (fun _ _ _ h => h) (Or.inl ⟨by rfl, ?_⟩) ?_ ?_
  rotate_left
  ·intro w'
   go_simp
   with_reducible rfl
  rotate_left
  ·simp only [Act.put, List.setIfInBounds_toArray, List.set_cons_zero, List.set_cons_succ, i64_w, i32_w]
   rfl
  refine take_ (i := 4) (N := some 11) (v := ?_) (a' := ?_) #[true,true,true,true,true,false,false,true,false,false,false,false,false] rfl rfl (take_ofW HT_.out HW_.out (by kernel_rfl)) (fun _ _ _ h => h) (Or.inl ⟨by rfl, ?_⟩) hHeld ?_ ?_
  rotate_left
  ·rintro w' ⟨s0, s1, s2, s3⟩
   go_simp
   with_reducible rfl
  rotate_left
  ·simp only [Act.put, List.setIfInBounds_toArray, List.set_cons_zero, List.set_cons_succ, i64_w, i32_w]
   rfl
  refine take_ (i := 5) (N := some 12) (v := ?_) (a' := ?_) #[true,true,true,true,true,true,false,true,false,false,false,false,false] rfl rfl (take_ofW HT_.out HW_.out (by kernel_rfl)) (fun _ _ _ h => h) (Or.inl ⟨by rfl, ?_⟩) hHeld ?_ ?_
  rotate_left
  ·rintro w' ⟨s0, s1, s2, s3⟩
   go_simp
   with_reducible rfl
  rotate_left
  ·simp only [Act.put, List.setIfInBounds_toArray, List.set_cons_zero, List.set_cons_succ, i64_w, i32_w]
   rfl
  refine take_ (i := 9) (N := some 16) (v := ?_) (a' := ?_) #[true,true,true,true,true,true,false,true,false,true,false,false,false] rfl rfl (take_ofW HT_.out HW_.out (by kernel_rfl)) (fun _ _ _ h => h) (Or.inl ⟨by rfl, ?_⟩) hHeld ?_ ?_
  rotate_left
  ·rintro w' ⟨s0, s1, s2, s3⟩
   go_simp
   with_reducible rfl
  rotate_left
  ·simp only [Act.put, List.setIfInBounds_toArray, List.set_cons_zero, List.set_cons_succ, i64_w, i32_w]
   rfl
  refine one_ (i := 6) (N := some 13) #[true,true,true,true,true,true,true,true,false,true,false,false,false] rfl rfl (one_of HT_.out (by kernel_rfl)) (by decide) (fun K hK => ?_)
  refine goes_ Tryd.func54 (by kernel_rfl) rfl #[.slice A3_0 l3_0.length c3_0] (by rfl) rfl rfl mM ?_
  with_reducible refine (impl_maskOf.calls k _ _ l3_0 t505 _ ?side1 ?side2 A8.out).mono ?_
  (case side1 => exact cP (Kd.C_below HR3_0.out (by repeat (first | (with_reducible first | exact HB.out | apply below_alloc | apply pw_below_drewN | apply below_drew1 | refine below_set ?_ GE500.out | refine below_set ?_ GE501.out | refine below_set ?_ GE502.out | refine below_set ?_ GE503.out) | exact HB.out))))
  (case side2 => exact HC3_0.out)
  rintro e w' ⟨rfl, ⟨nd, rfl⟩⟩
  refine ⟨_, rfl, ?_⟩
  refine hK.out _ _ ⟨(blk_cell BK500.out 0).trans rfl, (blk_cell BK501.out 0).trans rfl, (blk_cell BK502.out 0).trans rfl, (blk_cell BK503.out 0).trans rfl⟩ (fun hHeld => ?_)
  clear hK K
  refine norm_ (a' := ?_) ?_ ?_
  rotate_left
  ·show Act.put _ (some 13) _ = _
   simp only [Act.put, List.setIfInBounds_toArray, List.set_cons_zero, List.set_cons_succ, i64_w, i32_w]
   rfl
  refine one_ (i := 8) (N := some 15) #[true,true,true,true,true,true,true,true,true,true,false,false,false] rfl rfl (one_of HT_.out (by kernel_rfl)) (by decide) (fun K hK => ?_)
  refine goes_ Tryd.func54 (by kernel_rfl) rfl #[.slice A0 l0.length c0] (by rfl) rfl rfl mM ?_
  with_reducible refine (impl_maskOf.calls k _ _ l0 t506 _ ?side1 ?side2 A9.out).mono ?_
  (case side1 => exact cP (Kd.C_below HR0.out (by repeat (first | (with_reducible first | exact HB.out | apply below_alloc | apply pw_below_drewN | apply below_drew1 | refine below_set ?_ GE500.out | refine below_set ?_ GE501.out | refine below_set ?_ GE502.out | refine below_set ?_ GE503.out) | exact HB.out))))
  (case side2 => exact HC0.out)
  rintro e w' ⟨rfl, ⟨nd, rfl⟩⟩
  refine ⟨_, rfl, ?_⟩
  refine hK.out _ _ ⟨(blk_cell BK500.out 0).trans rfl, (blk_cell BK501.out 0).trans rfl, (blk_cell BK502.out 0).trans rfl, (blk_cell BK503.out 0).trans rfl⟩ (fun hHeld => ?_)
  clear hK K
  refine norm_ (a' := ?_) ?_ ?_
  rotate_left
  ·show Act.put _ (some 15) _ = _
   simp only [Act.put, List.setIfInBounds_toArray, List.set_cons_zero, List.set_cons_succ, i64_w, i32_w]
   rfl
  refine one_ (i := 10) (N := some 17) #[true,true,true,true,true,true,true,true,true,true,true,false,false] rfl rfl (one_of HT_.out (by kernel_rfl)) (by decide) (fun K hK => ?_)
  refine goes_ Tryd.func53 (by kernel_rfl) rfl #[.agg #[.slice A2_0 l2_0.length c2_0], .int .i64 t505, .int .i64 t506, .bool a4_0] (by rfl) rfl rfl mM ?_
  with_reducible refine (impl_net_canMoveGuards.calls k _ _ l2_0 t505 t506 a4_0 t507 _ ?sideT ?side1 ?side2 A10.out).mono ?_
  (case sideT => exact tabG_below HT.out (by exact bB))
  (case side1 => exact cP (Kd.C_below HR2_0.out (by repeat (first | (with_reducible first | exact HB.out | apply below_alloc | apply pw_below_drewN | apply below_drew1 | refine below_set ?_ GE500.out | refine below_set ?_ GE501.out | refine below_set ?_ GE502.out | refine below_set ?_ GE503.out) | exact HB.out))))
  (case side2 => exact HC2_0.out)
  rintro e w16 ⟨rfl, hb⟩
  refine ⟨_, rfl, ?_⟩
  have n0_ := Aside0.mk (blk_below (g := gb500) (o := .cells #[.int .i64 a1_0] 3 (0, 0)) (by exact kP BK500.out) hb)
  have n1_ := Aside0.mk (blk_below (g := gb501) (o := .cells #[.slice A2_0 l2_0.length c2_0] 62 (0, 0)) (by exact kP BK501.out) hb)
  have n2_ := Aside0.mk (blk_below (g := gb502) (o := .cells #[.slice A3_0 l3_0.length c3_0] 32 (0, 0)) (by exact kP BK502.out) hb)
  have n3_ := Aside0.mk (blk_below (g := gb503) (o := .cells #[.bool a4_0] 4 (0, 0)) (by exact kP BK503.out) hb)
  have n4_ := Aside0.mk (below_step (by exact bB) hb)
  clear BK500
  clear BK501
  clear BK502
  clear BK503
  clear HB
  have BK500 := n0_
  have BK501 := n1_
  have BK502 := n2_
  have BK503 := n3_
  have HB := n4_
  clear n0_ n1_ n2_ n3_ n4_
  (try clear hb)
  (try clear hb2)
  (try clear hk)
  (try clear hi)
  refine hK.out _ _ ⟨(blk_cell BK500.out 0).trans rfl, (blk_cell BK501.out 0).trans rfl, (blk_cell BK502.out 0).trans rfl, (blk_cell BK503.out 0).trans rfl⟩ (fun hHeld => ?_)
  clear hK K
  refine norm_ (a' := ?_) ?_ ?_
  rotate_left
  ·show Act.put _ (some 17) _ = _
   simp only [Act.put, List.setIfInBounds_toArray, List.set_cons_zero, List.set_cons_succ, i64_w, i32_w]
   rfl
  refine pure_ (i := 11) (N := some 18) (v := ?_) (a' := ?_) #[true,true,true,true,true,true,true,true,true,true,true,true,false] rfl rfl (any_of HT_.out (by kernel_rfl)) (fun _ _ _ h => h) (Or.inl ⟨by rfl, ?_⟩) ?_ ?_
  rotate_left
  ·intro w'
   go_simp
   with_reducible rfl
  rotate_left
  ·simp only [Act.put, List.setIfInBounds_toArray, List.set_cons_zero, List.set_cons_succ, i64_w, i32_w]
   rfl
  refine pure_ (i := 12) (N := some 6) (v := ?_) (a' := ?_) #[true,true,true,true,true,true,true,true,true,true,true,true,true] rfl rfl (any_of HT_.out (by kernel_rfl)) (fun _ _ _ h => h) (Or.inl ⟨by rfl, ?_⟩) ?_ ?_
  rotate_left
  ·intro w'
   go_simp
   with_reducible rfl
  rotate_left
  ·simp only [Act.put, List.setIfInBounds_toArray, List.set_cons_zero, List.set_cons_succ, i64_w, i32_w]
   rfl
  refine done_ (done_of HT_.out (by kernel_rfl)) ?_
  try go_wp2
  go_ret
  exact ⟨by first | rfl | (simp [errW_none, errW_some] <;> rfl) | (simp [*, errW_none, errW_some] <;> rfl), by exact bB⟩
 ·replace c7 := Bool.eq_false_iff.mpr c7
  subst c7
  have H1 : (some false) = some r := by rw [if_neg (show ¬ (false = true) by decide)] at H;exact H
  clear H
  have H := H1
  clear H1
  obtain rfl := Option.some.inj H
  go_enter Tryd.func99, Tryd.ntmps99
  try go_wp2
  have n0_ := Aside0.mk (blk_drew BK500.out)
  have n1_ := Aside0.mk (blk_drew BK501.out)
  have n2_ := Aside0.mk (blk_drew BK502.out)
  have n3_ := Aside0.mk (blk_drew BK503.out)
  have n4_ := Aside0.mk (below_drew1 HB.out)
  clear BK500
  clear BK501
  clear BK502
  clear BK503
  clear HB
  have BK500 := n0_
  have BK501 := n1_
  have BK502 := n2_
  have BK503 := n3_
  have HB := n4_
  clear n0_ n1_ n2_ n3_ n4_
  refine start_ (n := 13) (S := fun w' => w'.cell? ⟨gb500, 0, none⟩ = some (.int .i64 a1_0)) (ds := []) #[false,false,false,false,false,false,false,false,false,false,false,false,false] (by kernel_rfl) rfl rfl ((blk_cell BK500.out 0).trans rfl) (fun hHeld => ?_);refine with_tabW impl_isEternalFamilyC2.tab1 impl_isEternalFamilyC2.bits1 (fun HT_ HW_ => ?_)
  generalize w.drew = w21 at BK500 BK501 BK502 BK503 HB hHeld ⊢
  refine pure_ (i := 0) (N := some 7) (v := ?_) (a' := ?_) #[true,false,false,false,false,false,false,false,false,false,false,false,false] rfl rfl (any_of HT_.out (by kernel_rfl)) (fun _ _ _ h => h) (Or.inl ⟨by rfl, ?_⟩) ?_ ?_
  rotate_left
  ·intro w'
   go_simp
   with_reducible rfl
  rotate_left
  ·simp only [Act.put, List.setIfInBounds_toArray, List.set_cons_zero, List.set_cons_succ, i64_w, i32_w]
   rfl
  refine take_ (i := 1) (N := some 8) (v := ?_) (a' := ?_) #[true,true,false,false,false,false,false,false,false,false,false,false,false] rfl rfl (take_ofW HT_.out HW_.out (by kernel_rfl)) (fun _ _ _ h => h) (Or.inl ⟨by rfl, ?_⟩) hHeld ?_ ?_
  rotate_left
  ·intro w' s0
   go_simp
   with_reducible rfl
  rotate_left
  ·simp only [Act.put, List.setIfInBounds_toArray, List.set_cons_zero, List.set_cons_succ, i64_w, i32_w]
   rfl
  refine one_ (i := 2) (N := some 9) #[true,true,true,false,false,false,false,false,false,false,false,false,false] rfl rfl (one_of HT_.out (by kernel_rfl)) (by decide) (fun K hK => ?_)
  refine goes_ Tryd.func65 (by kernel_rfl) rfl #[.slice A0 l0.length c0, .int .i64 a1_0] (by rfl) rfl rfl mM ?_
  with_reducible refine (slices_Contains_int_int.calls k _ _ l0 a1_0 false _ ?side1 ?side2 A6.out).mono ?_
  (case side1 => exact cP (Kd.C_below HR0.out HB.out))
  (case side2 => exact HC0.out)
  rintro e w' ⟨rfl, ⟨nd, rfl⟩⟩
  refine ⟨_, rfl, ?_⟩
  refine hK.out _ _ ((blk_cell BK500.out 0).trans rfl) (fun hHeld => ?_)
  clear hK K
  refine norm_ (a' := ?_) ?_ ?_
  rotate_left
  ·show Act.put _ (some 9) _ = _
   simp only [Act.put, List.setIfInBounds_toArray, List.set_cons_zero, List.set_cons_succ, i64_w, i32_w]
   rfl
  refine pure_ (i := 3) (N := some 10) (v := ?_) (a' := ?_) #[true,true,true,true,false,false,false,false,false,false,false,false,false] rfl rfl (any_of HT_.out (by kernel_rfl)) (fun _ _ _ h => h) (Or.inl ⟨by rfl, ?_⟩) ?_ ?_
  rotate_left
  ·intro w'
   go_simp
   with_reducible rfl
  rotate_left
  ·simp only [Act.put, List.setIfInBounds_toArray, List.set_cons_zero, List.set_cons_succ, i64_w, i32_w]
   rfl
  refine pure_ (i := 4) (N := some 11) (v := undef) (a' := ?_) #[true,true,true,true,true,false,false,false,false,false,false,false,false] rfl rfl (any_of HT_.out (by kernel_rfl)) (fun _ _ _ h => h) (Or.inr ⟨by rfl, rfl⟩) ?_ ?_
  rotate_left
  ·simp only [Act.put, List.setIfInBounds_toArray, List.set_cons_zero, List.set_cons_succ, i64_w, i32_w]
   rfl
  refine pure_ (i := 5) (N := some 12) (v := undef) (a' := ?_) #[true,true,true,true,true,true,false,false,false,false,false,false,false] rfl rfl (any_of HT_.out (by kernel_rfl)) (fun _ _ _ h => h) (Or.inr ⟨by rfl, rfl⟩) ?_ ?_
  rotate_left
  ·simp only [Act.put, List.setIfInBounds_toArray, List.set_cons_zero, List.set_cons_succ, i64_w, i32_w]
   rfl
  refine pure_ (i := 6) (N := some 13) (v := undef) (a' := ?_) #[true,true,true,true,true,true,true,false,false,false,false,false,false] rfl rfl (any_of HT_.out (by kernel_rfl)) (fun _ _ _ h => h) (Or.inr ⟨by rfl, rfl⟩) ?_ ?_
  rotate_left
  ·simp only [Act.put, List.setIfInBounds_toArray, List.set_cons_zero, List.set_cons_succ, i64_w, i32_w]
   rfl
  refine pure_ (i := 7) (N := some 14) (v := undef) (a' := ?_) #[true,true,true,true,true,true,true,true,false,false,false,false,false] rfl rfl (any_of HT_.out (by kernel_rfl)) (fun _ _ _ h => h) (Or.inr ⟨by rfl, rfl⟩) ?_ ?_
  rotate_left
  ·simp only [Act.put, List.setIfInBounds_toArray, List.set_cons_zero, List.set_cons_succ, i64_w, i32_w]
   rfl
  refine pure_ (i := 8) (N := some 15) (v := undef) (a' := ?_) #[true,true,true,true,true,true,true,true,true,false,false,false,false] rfl rfl (any_of HT_.out (by kernel_rfl)) (fun _ _ _ h => h) (Or.inr ⟨by rfl, rfl⟩) ?_ ?_
  rotate_left
  ·simp only [Act.put, List.setIfInBounds_toArray, List.set_cons_zero, List.set_cons_succ, i64_w, i32_w]
   rfl
  refine pure_ (i := 9) (N := some 16) (v := undef) (a' := ?_) #[true,true,true,true,true,true,true,true,true,true,false,false,false] rfl rfl (any_of HT_.out (by kernel_rfl)) (fun _ _ _ h => h) (Or.inr ⟨by rfl, rfl⟩) ?_ ?_
  rotate_left
  ·simp only [Act.put, List.setIfInBounds_toArray, List.set_cons_zero, List.set_cons_succ, i64_w, i32_w]
   rfl
  refine pure_ (i := 10) (N := some 17) (v := undef) (a' := ?_) #[true,true,true,true,true,true,true,true,true,true,true,false,false] rfl rfl (any_of HT_.out (by kernel_rfl)) (fun _ _ _ h => h) (Or.inr ⟨by rfl, rfl⟩) ?_ ?_
  rotate_left
  ·simp only [Act.put, List.setIfInBounds_toArray, List.set_cons_zero, List.set_cons_succ, i64_w, i32_w]
   rfl
  refine pure_ (i := 11) (N := some 18) (v := ?_) (a' := ?_) #[true,true,true,true,true,true,true,true,true,true,true,true,false] rfl rfl (any_of HT_.out (by kernel_rfl)) (fun _ _ _ h => h) (Or.inl ⟨by rfl, ?_⟩) ?_ ?_
  rotate_left
  ·intro w'
   go_simp
   with_reducible rfl
  rotate_left
  ·simp only [Act.put, List.setIfInBounds_toArray, List.set_cons_zero, List.set_cons_succ, i64_w, i32_w]
   rfl
  refine pure_ (i := 12) (N := some 6) (v := ?_) (a' := ?_) #[true,true,true,true,true,true,true,true,true,true,true,true,true] rfl rfl (any_of HT_.out (by kernel_rfl)) (fun _ _ _ h => h) (Or.inl ⟨by rfl, ?_⟩) ?_ ?_
  rotate_left
  ·intro w'
   go_simp
   with_reducible rfl
  rotate_left
  ·simp only [Act.put, List.setIfInBounds_toArray, List.set_cons_zero, List.set_cons_succ, i64_w, i32_w]
   rfl
  refine done_ (done_of HT_.out (by kernel_rfl)) ?_
  try go_wp2
  go_ret
  exact ⟨by first | rfl | (simp [errW_none, errW_some] <;> rfl) | (simp [*, errW_none, errW_some] <;> rfl), by exact bB⟩


/-! ### impl_valAns: by hand (over the rows of impl_valBad.f) -/
def impl_valAns.f (k : Nat) (near : List Int) (L : List (List Int)) (set : List Int) (x : Int) (all : Bool) : Option Bool := anyR (fun y => impl_isEternalFamilyC2.f k y x near set all) L
theorem impl_valAns.mono : ∀ a0 a1 a2 a3 a4 k, LeO (impl_valAns.f k a0 a1 a2 a3 a4) (impl_valAns.f (k + 1) a0 a1 a2 a3 a4) := by
 intro a0 a1 a2 a3 a4 k
 unfold impl_valAns.f anyR
 exact LeO.bind (idxR_mono (fun x => impl_isEternalFamilyC2.mono _ _ _ _ _ _) _ _) (fun _ => LeO.refl _)
theorem impl_valAns.calls (gC gN gD gB k : Nat) (An : Option Addr) (cn : Nat) (near : List Int) (A1 : Option Addr) (c1 : Nat) (L : List (List Int)) (Ad : Option Addr) (cd : Nat) (set : List Int) (x : Int) (all : Bool) (r : Bool) (w : World) (hT : TabG w) (hrn : Kd.C (Kd.int .i64) w An near.length near) (hcn : near.length ≤ cn) (hr1 : Kd.C (Kd.slice 3 (Kd.int .i64)) w A1 L.length L) (_hc1 : L.length ≤ c1) (hrd : Kd.C (Kd.int .i64) w Ad set.length set) (hcd : set.length ≤ cd) (h : impl_valAns.f k near L set x all = some r)
  (hC : w.heap[gC]? = some (.cells #[.int .i64 x] 3 (0, 0))) (hN : w.heap[gN]? = some (.cells #[.slice An near.length cn] 62 (0, 0))) (hD : w.heap[gD]? = some (.cells #[.slice Ad set.length cd] 32 (0, 0))) (hB : w.heap[gB]? = some (.cells #[.bool all] 4 (0, 0))) :
  Calls Tryd.prog 97 #[.slice A1 L.length c1, .func (.func 99) #[] #[.pointer (some ⟨gC, 0, none⟩), .pointer (some ⟨gN, 0, none⟩), .pointer (some ⟨gD, 0, none⟩), .pointer (some ⟨gB, 0, none⟩)]] w fun e w' => e = .returned (.bool r) ∧ Below w.heap.size w w' :=
 containsRows_calls 99 #[.pointer (some ⟨gC, 0, none⟩), .pointer (some ⟨gN, 0, none⟩), .pointer (some ⟨gD, 0, none⟩), .pointer (some ⟨gB, 0, none⟩)] (enters_of Tryd.func99 (by kernel_rfl) rfl) (fun y => impl_isEternalFamilyC2.f k y x near set all) A1 c1 L w hr1 r h
  (fun y A' c' b W hq hb hy hyc => impl_isEternalFamilyC2.calls gC gN gD gB k A' c' y x An cn near Ad cd set all b W (tabG_below hT hb) hy hyc (Kd.C_below hrn hb) hcn (Kd.C_below hrd hb) hcd (blk_below hC hb) (blk_below hN hb) (blk_below hD hb) (blk_below hB hb) hq)

/-! ### impl_net_all: function 46 -/
def impl_net_all.f (l0_0 : List Int) : Option (Int) := some (wrap64 ((shl .i64 1 (l0_0.length : Int)) - 1))
set_option maxHeartbeats 8000000 in
set_option maxRecDepth 100000 in
theorem impl_net_all.calls (A0_0 : Option Addr) (c0_0 : Nat) (l0_0 : List Int) (r : Int) (w : World) (hr0_0 : Kd.C (Kd.int .i64) w A0_0 l0_0.length l0_0) (hc0_0 : l0_0.length ≤ c0_0) (h : impl_net_all.f l0_0 = some r) :
  Calls Tryd.prog 46 #[.agg #[.slice A0_0 l0_0.length c0_0]] w fun e w' => e = .returned (.int .i64 r) ∧ Below w.heap.size w w' := by
 have hu62 := Tryd.underlying62
 have HR0_0 := Aside0.mk hr0_0
 have HC0_0 := Aside0.mk hc0_0
 clear hr0_0 hc0_0
 have HB := Aside0.mk (Below.refl w.heap.size w)
 have H : (some (wrap64 ((shl .i64 1 (l0_0.length : Int)) - 1))) = some r := h
 clear h
 obtain ⟨ji2, hji2⟩ : ∃ j_ : Int, (shl .i64 1 (l0_0.length : Int)) = j_ := ⟨_, rfl⟩
 replace H : (some (wrap64 ((ji2) - 1))) = some r := by first | (rw [hji2] at H;exact H) | (simp only [hji2] at H ⊢;exact H)
 have hji2_ : (IntKind.i64.wrap (1 * 2 ^ min (l0_0.length : Int).toNat 64)) = ji2 := hji2
 have hji2z : (l0_0.length : Int) ≤ 64 → (IntKind.i64.wrap (1 * 2 ^ (l0_0.length : Int).toNat)) = ji2 := shl_small hji2
 have hji2p : (IntKind.i64.wrap (1 * 2 ^ min l0_0.length 64)) = ji2 := hji2_
 have hji2q : (l0_0.length : Int) ≤ 64 → (IntKind.i64.wrap (1 * 2 ^ l0_0.length)) = ji2 := hji2z
 have hji2r : (IntKind.i64.wrap (2 ^ min l0_0.length 64)) = ji2 := by have h_ := hji2p;rw [Int.one_mul] at h_;exact h_
 have hji2s : (l0_0.length : Int) ≤ 64 → (IntKind.i64.wrap (2 ^ l0_0.length)) = ji2 := fun hle_ => by have h_ := hji2q hle_;rw [Int.one_mul] at h_;exact h_
 have hji2u : (IntKind.i64.wrap (2 ^ min (l0_0.length : Int).toNat 64)) = ji2 := by have h_ := hji2_;rw [Int.one_mul] at h_;exact h_
 have hji2v : (l0_0.length : Int) ≤ 64 → (IntKind.i64.wrap (2 ^ (l0_0.length : Int).toNat)) = ji2 := fun hle_ => by have h_ := hji2z hle_;rw [Int.one_mul] at h_;exact h_
 have hji2y : (wrap64 (1 * 2 ^ min (l0_0.length : Int).toNat 64)) = ji2 := (i64_w _).symm.trans hji2_
 have hji2x : (l0_0.length : Int) ≤ 64 → (wrap64 (1 * 2 ^ (l0_0.length : Int).toNat)) = ji2 := fun h_ => (i64_w _).symm.trans (hji2z h_)
 obtain rfl := Option.some.inj H
 go_enter Tryd.func46, Tryd.ntmps46
 go_wp2_with (first | ((with_reducible refine gate_dst (N := 1) rfl ?_);refine box_event ?hg (N := 1) ?hd (cs := #[.slice A0_0 l0_0.length c0_0]) (t := 62) ?hr ?_;(case hd => rfl);(case hg => rfl);(case hr => first | (go_simp;done) | (go_simp;rfl));intro gb512 hg w3 hbox hb;have n0_ := Aside0.mk (below_step (by exact bB) hb);have n1_ := Aside0.mk (hbox);have n2_ := Aside0.mk ((by rw [hg];exact (below_size (by exact bB)) : w.heap.size ≤ gb512));have n3_ := Aside0.mk ((by rw [hg];exact (below_size (by exact bB)) : w.heap.size ≤ gb512));clear HB;have HB := n0_;have BK512 := n1_;have GW512 := n2_;have GE512 := n3_;clear n0_ n1_ n2_ n3_;clear hb hbox hg;have hcz4_0 : w3.cell? ⟨gb512, 0, none⟩ = some (.slice A0_0 l0_0.length c0_0) := (blk_cell BK512.out 0).trans rfl;have hfz4_0 := blk_frozen BK512.out 0))
 go_ret
 exact ⟨by first | rfl | (simp [errW_none, errW_some] <;> rfl) | (simp only [← hji2];first | rfl | (simp [errW_none, errW_some] <;> rfl)) | (simp [*, errW_none, errW_some] <;> rfl), by exact bB⟩






end Go.Proofs.YthbjajppdomhhaaDoor.QIsEternalFamily
