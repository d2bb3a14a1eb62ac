import Derived.Test.YthbjajppdomhhaaDoorQGuardAnswers0
import Derived.Test.YthbjajppdomhhaaDoorQGuardAnswers15
import Derived.Test.YthbjajppdomhhaaDoorQGuardAnswers16
namespace Go.Proofs.YthbjajppdomhhaaDoor.QGuardAnswers
open Go.RowKit Go.Proofs.YthbjajppdomhhaaDoorW.PrintWords Go.Proofs.YthbjajppdomhhaaDoorW.PrintLast Go.Proofs.YthbjajppdomhhaaDoorW.PrintMore
attribute [local go_sem] max2_int min2_int max_two min_two max_three min_three max_four min_four   -- for this text's walks alone
set_option linter.unusedVariables false
set_option linter.unusedSimpArgs false
/-! ### impl_net_guardGame: function 66 -/
mutual
def impl_net_guardGame.l0 : Nat → Bool → List (List Int) → Int → Int → List Int → Int → List (List Int) → List (List Int) → Option (Int × (List (List Int)) × (List (List Int)))
 | 0, _, _, _, _, _, _, _, _ => none
 | k + 1, x2, x24, x25, x26, x436000, x442000, x442001, x442002 => if x26 < x25 then (if 0 ≤ x26 then (if x26 < (x24.length : Int) then (impl_net_guardGame.l1 k x2 (rd_L2 x24 x26) ([] : List Int) x24 x25 x26 x442001 (x442001.length : Int) 0 x436000 x442000 x442001 x442002) else (none)) else (none)) else (some (x442000, x442001, x442002))
def impl_net_guardGame.l1 : Nat → Bool → List Int → List Int → List (List Int) → Int → Int → List (List Int) → Int → Int → List Int → Int → List (List Int) → List (List Int) → Option (Int × (List (List Int)) × (List (List Int)))
 | 0, _, _, _, _, _, _, _, _, _, _, _, _, _ => none
 | k + 1, x2, x9, x10, x24, x25, x26, x33, x34, x35, x436000, x442000, x442001, x442002 => if x35 < x34 then (if 0 ≤ x35 then (if x35 < (x33.length : Int) then ((impl_maskOf.f k x9).bind fun t447 => ((impl_maskOf.f k (rd_L2 x33 x35)).bind fun t448 => ((impl_net_canMoveGuards.f k x436000 t447 t448 x2).bind fun t449 => (if t449 = true then (if x10.length < 17592186044416 then (impl_net_guardGame.l1 k x2 x9 (x10 ++ [x35]) x24 x25 x26 x33 x34 (wrap64 (x35 + 1)) x436000 x442000 x442001 x442002) else (none)) else (impl_net_guardGame.l1 k x2 x9 x10 x24 x25 x26 x33 x34 (wrap64 (x35 + 1)) x436000 x442000 x442001 x442002))))) else (none)) else (none)) else (if x442002.length < 5864062014805 then (impl_net_guardGame.l0 k x2 x24 x25 (wrap64 (x26 + 1)) x436000 x442000 x442001 (x442002 ++ [x10])) else (none))
end
def impl_net_guardGame.f (k : Nat) (l0_0 : List Int) (a1 : Int) (a2 : Bool) : Option (Int × (List (List Int)) × (List (List Int))) := (impl_net_size.f l0_0).bind fun t436 => ((impl_net_size.f l0_0).bind fun t437 => ((impl_guardSets.f k t437 a1).bind fun t438 => (impl_net_guardGame.l0 k a2 t438 (t438.length : Int) 0 l0_0 t436 t438 ([] : List (List Int)))))
theorem impl_net_guardGame.mono_l : ∀ k, (∀ y0 y1 y2 y3 y4 y5 y6 y7, LeO (impl_net_guardGame.l0 k y0 y1 y2 y3 y4 y5 y6 y7) (impl_net_guardGame.l0 (k + 1) y0 y1 y2 y3 y4 y5 y6 y7)) ∧ (∀ y0 y1 y2 y3 y4 y5 y6 y7 y8 y9 y10 y11 y12, LeO (impl_net_guardGame.l1 k y0 y1 y2 y3 y4 y5 y6 y7 y8 y9 y10 y11 y12) (impl_net_guardGame.l1 (k + 1) y0 y1 y2 y3 y4 y5 y6 y7 y8 y9 y10 y11 y12))
 | 0 => ⟨fun _ _ _ _ _ _ _ _ r h => by simp [impl_net_guardGame.l0] at h, fun _ _ _ _ _ _ _ _ _ _ _ _ _ r h => by simp [impl_net_guardGame.l1] at h⟩
 | k + 1 => by
  obtain ⟨ih0, ih1⟩ := impl_net_guardGame.mono_l k
  refine ⟨?_, ?_⟩
  ·intro y0 y1 y2 y3 y4 y5 y6 y7
   unfold impl_net_guardGame.l0
   repeat' first
   | (with_reducible exact ih0 _ _ _ _ _ _ _ _)
   | (with_reducible exact ih1 _ _ _ _ _ _ _ _ _ _ _ _ _)
   | (with_reducible exact impl_guardSets.mono _ _ _)
   | (with_reducible exact impl_maskOf.mono _ _)
   | (with_reducible exact impl_net_canMoveGuards.mono _ _ _ _ _)
   | (with_reducible exact LeO.refl _)
   | (with_reducible exact LeO.none _)
   | (with_reducible refine LeO.ite ?_ ?_)
   | (with_reducible refine LeO.bind ?_ (fun _ => ?_))
   | exact ih0 _ _ _ _ _ _ _ _
   | exact ih1 _ _ _ _ _ _ _ _ _ _ _ _ _
   | exact impl_guardSets.mono _ _ _
   | exact impl_maskOf.mono _ _
   | exact impl_net_canMoveGuards.mono _ _ _ _ _
   | exact LeO.none _
   | refine LeO.ite ?_ ?_
   | refine LeO.bind ?_ (fun _ => ?_)
  ·intro y0 y1 y2 y3 y4 y5 y6 y7 y8 y9 y10 y11 y12
   unfold impl_net_guardGame.l1
   repeat' first
   | (with_reducible exact ih0 _ _ _ _ _ _ _ _)
   | (with_reducible exact ih1 _ _ _ _ _ _ _ _ _ _ _ _ _)
   | (with_reducible exact impl_guardSets.mono _ _ _)
   | (with_reducible exact impl_maskOf.mono _ _)
   | (with_reducible exact impl_net_canMoveGuards.mono _ _ _ _ _)
   | (with_reducible exact LeO.refl _)
   | (with_reducible exact LeO.none _)
   | (with_reducible refine LeO.ite ?_ ?_)
   | (with_reducible refine LeO.bind ?_ (fun _ => ?_))
   | exact ih0 _ _ _ _ _ _ _ _
   | exact ih1 _ _ _ _ _ _ _ _ _ _ _ _ _
   | exact impl_guardSets.mono _ _ _
   | exact impl_maskOf.mono _ _
   | exact impl_net_canMoveGuards.mono _ _ _ _ _
   | exact LeO.none _
   | refine LeO.ite ?_ ?_
   | refine LeO.bind ?_ (fun _ => ?_)
theorem impl_net_guardGame.mono : ∀ a0 a1 a2 k, LeO (impl_net_guardGame.f k a0 a1 a2) (impl_net_guardGame.f (k + 1) a0 a1 a2) := by
 intro a0 a1 a2 k
 obtain ⟨ih0, ih1⟩ := impl_net_guardGame.mono_l k
 unfold impl_net_guardGame.f
 repeat' first
   | (with_reducible exact ih0 _ _ _ _ _ _ _ _)
   | (with_reducible exact ih1 _ _ _ _ _ _ _ _ _ _ _ _ _)
   | (with_reducible exact impl_guardSets.mono _ _ _)
   | (with_reducible exact impl_maskOf.mono _ _)
   | (with_reducible exact impl_net_canMoveGuards.mono _ _ _ _ _)
   | (with_reducible exact LeO.refl _)
   | (with_reducible exact LeO.none _)
   | (with_reducible refine LeO.ite ?_ ?_)
   | (with_reducible refine LeO.bind ?_ (fun _ => ?_))
   | exact ih0 _ _ _ _ _ _ _ _
   | exact ih1 _ _ _ _ _ _ _ _ _ _ _ _ _
   | exact impl_guardSets.mono _ _ _
   | exact impl_maskOf.mono _ _
   | exact impl_net_canMoveGuards.mono _ _ _ _ _
   | exact LeO.none _
   | refine LeO.ite ?_ ?_
   | refine LeO.bind ?_ (fun _ => ?_)
def impl_net_guardGame.T1 : Bool × List (List Nat × List Nat) := (true, [([], []), ([0], [0]), ([], []), ([2, 1], [2]), ([], []), ([3, 4, 3], [3, 4]), ([1, 5], [1, 5]), ([6], [6]), ([7, 5, 0, 1, 2, 3, 4, 5, 6, 7], [7])])
def impl_net_guardGame.B1 : List Nat := [0, 1, 0, 7, 0, 31, 63, 127, 255]
theorem impl_net_guardGame.tab1 : rtab .any (opsOf Tryd.f66 1) = impl_net_guardGame.T1 := by kernel_rfl
theorem impl_net_guardGame.bits1 : waitsOk impl_net_guardGame.T1.2 impl_net_guardGame.B1 = true := by kernel_rfl
set_option maxHeartbeats 8000000 in
set_option maxRecDepth 100000 in
theorem impl_net_guardGame.calls (k : Nat) (A0_0 : Option Addr) (c0_0 : Nat) (l0_0 : List Int) (a1 : Int) (a2 : Bool) (r1 : Int) (r2 : List (List Int)) (r3 : List (List Int)) (w : World) (hT : TabG w) (hr0_0 : Kd.C (Kd.int .i64) w A0_0 l0_0.length l0_0) (hc0_0 : l0_0.length ≤ c0_0) (h : impl_net_guardGame.f k l0_0 a1 a2 = some (r1, r2, r3)) :
  Calls Tryd.prog 66 #[.agg #[.slice A0_0 l0_0.length c0_0], .int .i64 a1, .bool a2] w fun e w' => ∃ (g : Nat) (v1_ v2_ : Value), e = .returned (.pointer (some ⟨g, 0, none⟩)) ∧ w'.heap[g]? = some (.cells #[.int .i64 r1, v1_, v2_] 89 (0, 0)) ∧ w.heap.size ≤ g ∧ Kd.S (Kd.slice 3 (Kd.int .i64)) 32 w' w.heap.size (fun k_ => some k_ ≠ (v2_ : Value).ownBlock) v1_ r2 ∧ Kd.S (Kd.slice 3 (Kd.int .i64)) 32 w' w.heap.size (fun k_ => some k_ ≠ (v1_ : Value).ownBlock) v2_ r3 ∧ Below w.heap.size w w' := by
 have hu62 := Tryd.underlying62
 have hu89 := Tryd.underlying89
 have HR0_0 := Aside0.mk hr0_0
 have HC0_0 := Aside0.mk hc0_0
 clear hr0_0 hc0_0
 have HB := Aside0.mk (Below.refl w.heap.size w)
 have HT := Aside0.mk hT
 clear hT
 have H : ((impl_net_size.f l0_0).bind fun t436 => ((impl_net_size.f l0_0).bind fun t437 => ((impl_guardSets.f k t437 a1).bind fun t438 => (impl_net_guardGame.l0 k a2 t438 (t438.length : Int) 0 l0_0 t436 t438 ([] : List (List Int)))))) = some (r1, r2, r3) := h
 clear h
 replace H := Option.bind_eq_some_iff.mp H
 obtain ⟨t436, A40, H⟩ := H
 replace H : ((impl_net_size.f l0_0).bind fun t437 => ((impl_guardSets.f k t437 a1).bind fun t438 => (impl_net_guardGame.l0 k a2 t438 (t438.length : Int) 0 l0_0 t436 t438 ([] : List (List Int))))) = some (r1, r2, r3) := H
 have A4 := Aside0.mk A40
 clear A40
 replace H := Option.bind_eq_some_iff.mp H
 obtain ⟨t437, A50, H⟩ := H
 replace H : ((impl_guardSets.f k t437 a1).bind fun t438 => (impl_net_guardGame.l0 k a2 t438 (t438.length : Int) 0 l0_0 t436 t438 ([] : List (List Int)))) = some (r1, r2, r3) := H
 have A5 := Aside0.mk A50
 clear A50
 replace H := Option.bind_eq_some_iff.mp H
 obtain ⟨t438, A60, H⟩ := H
 replace H : (impl_net_guardGame.l0 k a2 t438 (t438.length : Int) 0 l0_0 t436 t438 ([] : List (List Int))) = some (r1, r2, r3) := H
 have A6 := Aside0.mk A60
 clear A60
 have H' := Aside0.mk H
 clear H
 go_enter Tryd.func66, Tryd.ntmps66
 try go_wp2_with (first | ((with_reducible refine gate_dst (N := 3) rfl ?_);refine box_event ?hg (N := 3) ?hd (cs := #[.slice A0_0 l0_0.length c0_0]) (t := 62) ?hr ?_;(case hd => rfl);(case hg => rfl);(case hr => first | (go_simp;done) | (go_simp;rfl));intro gb435 hg w7 hbox hb;have n0_ := Aside0.mk (below_step (by exact bB) hb);have n1_ := Aside0.mk (hbox);have n2_ := Aside0.mk ((by rw [hg];exact (below_size (by exact bB)) : w.heap.size ≤ gb435));have n3_ := Aside0.mk ((by rw [hg];exact (below_size (by exact bB)) : w.heap.size ≤ gb435));clear HB;have HB := n0_;have BK435 := n1_;have GW435 := n2_;have GE435 := n3_;clear n0_ n1_ n2_ n3_;clear hb hbox hg))
 have n0_ := Aside0.mk (blk_drew BK435.out)
 have n1_ := Aside0.mk (below_drew1 HB.out)
 clear BK435
 clear HB
 have BK435 := n0_
 have HB := n1_
 clear n0_ n1_
 refine start_ (n := 9) (S := fun w' => w'.cell? ⟨gb435, 0, none⟩ = some (.slice A0_0 l0_0.length c0_0)) (ds := []) #[false,false,false,false,false,false,false,false,false] (by kernel_rfl) rfl rfl ((blk_cell BK435.out 0).trans rfl) (fun hHeld => ?_);refine with_tabW impl_net_guardGame.tab1 impl_net_guardGame.bits1 (fun HT_ HW_ => ?_)
 generalize w7.drew = w8 at BK435 HB hHeld ⊢
 refine pure_ (i := 4) (N := some 17) (v := ?_) (a' := ?_) #[false,false,false,false,true,false,false,false,false] rfl rfl (any_of HT_.out (by kernel_rfl)) (fun _ _ _ h => h) (Or.inl ⟨by rfl, ?_⟩) ?_ ?_
 rotate_left
 ·intro w'
  go_simp
  with_reducible rfl
 rotate_left
 ·simp only [Act.put, List.setIfInBounds_toArray, List.set_cons_zero, List.set_cons_succ, i64_w, i32_w]
  rfl
 refine take_ (i := 0) (N := some 13) (v := ?_) (a' := ?_) #[true,false,false,false,true,false,false,false,false] rfl rfl (take_ofW HT_.out HW_.out (by kernel_rfl)) (fun _ _ _ h => h) (Or.inl ⟨by rfl, ?_⟩) hHeld ?_ ?_
 rotate_left
 ·intro w' s0
  go_simp
  with_reducible rfl
 rotate_left
 ·simp only [Act.put, List.setIfInBounds_toArray, List.set_cons_zero, List.set_cons_succ, i64_w, i32_w]
  rfl
 refine take_ (i := 2) (N := some 15) (v := ?_) (a' := ?_) #[true,false,true,false,true,false,false,false,false] rfl rfl (take_ofW HT_.out HW_.out (by kernel_rfl)) (fun _ _ _ h => h) (Or.inl ⟨by rfl, ?_⟩) hHeld ?_ ?_
 rotate_left
 ·intro w' s0
  go_simp
  with_reducible rfl
 rotate_left
 ·simp only [Act.put, List.setIfInBounds_toArray, List.set_cons_zero, List.set_cons_succ, i64_w, i32_w]
  rfl
 refine one_ (i := 1) (N := some 14) #[true,true,true,false,true,false,false,false,false] rfl rfl (one_of HT_.out (by kernel_rfl)) (by decide) (fun K hK => ?_)
 refine goes_ Tryd.func103 (by kernel_rfl) rfl #[.agg #[.slice A0_0 l0_0.length c0_0]] (by rfl) rfl rfl mM ?_
 with_reducible refine (impl_net_size.calls _ _ l0_0 t436 _ ?side1 ?side2 A4.out).mono ?_
 (case side1 => exact cP (Kd.C_below HR0_0.out HB.out))
 (case side2 => exact HC0_0.out)
 rintro e w9 ⟨rfl, hb⟩
 refine ⟨_, rfl, ?_⟩
 have n0_ := Aside0.mk (blk_below (g := gb435) (o := .cells #[.slice A0_0 l0_0.length c0_0] 62 (0, 0)) (by exact kP BK435.out) hb)
 have n1_ := Aside0.mk (below_step (by exact bB) hb)
 clear BK435
 clear HB
 have BK435 := n0_
 have HB := n1_
 clear n0_ n1_
 (try clear hb)
 (try clear hb2)
 (try clear hk)
 (try clear hi)
 refine hK.out _ _ ((blk_cell BK435.out 0).trans rfl) (fun hHeld => ?_)
 clear hK K
 refine norm_ (a' := ?_) ?_ ?_
 rotate_left
 ·show Act.put _ (some 14) _ = _
  simp only [Act.put, List.setIfInBounds_toArray, List.set_cons_zero, List.set_cons_succ, i64_w, i32_w]
  rfl
 refine one_ (i := 3) (N := some 16) #[true,true,true,true,true,false,false,false,false] rfl rfl (one_of HT_.out (by kernel_rfl)) (by decide) (fun K hK => ?_)
 refine goes_ Tryd.func103 (by kernel_rfl) rfl #[.agg #[.slice A0_0 l0_0.length c0_0]] (by rfl) rfl rfl mM ?_
 with_reducible refine (impl_net_size.calls _ _ l0_0 t437 _ ?side1 ?side2 A5.out).mono ?_
 (case side1 => exact cP (Kd.C_below HR0_0.out HB.out))
 (case side2 => exact HC0_0.out)
 rintro e w10 ⟨rfl, hb⟩
 refine ⟨_, rfl, ?_⟩
 have n0_ := Aside0.mk (blk_below (g := gb435) (o := .cells #[.slice A0_0 l0_0.length c0_0] 62 (0, 0)) (by exact kP BK435.out) hb)
 have n1_ := Aside0.mk (below_step (by exact bB) hb)
 clear BK435
 clear HB
 have BK435 := n0_
 have HB := n1_
 clear n0_ n1_
 (try clear hb)
 (try clear hb2)
 (try clear hk)
 (try clear hi)
 refine hK.out _ _ ((blk_cell BK435.out 0).trans rfl) (fun hHeld => ?_)
 clear hK K
 refine norm_ (a' := ?_) ?_ ?_
 rotate_left
 ·show Act.put _ (some 16) _ = _
  simp only [Act.put, List.setIfInBounds_toArray, List.set_cons_zero, List.set_cons_succ, i64_w, i32_w]
  rfl
 refine one_ (i := 5) (N := some 18) #[true,true,true,true,true,true,false,false,false] rfl rfl (one_of HT_.out (by kernel_rfl)) (by decide) (fun K hK => ?_)
 refine goes_ Tryd.func108 (by kernel_rfl) rfl #[.int .i64 t437, .int .i64 a1] (by rfl) rfl rfl mM ?_
 with_reducible refine (impl_guardSets.calls k t437 a1 t438 _ A6.out).mono ?_
 rintro e w11 ⟨v439, rfl, ho0, hb⟩
 refine ⟨_, rfl, ?_⟩
 have n0_ := Aside0.mk (Kd.S_lower ho0 (below_size (by exact bB)))
 have n1_ := Aside0.mk (blk_below (g := gb435) (o := .cells #[.slice A0_0 l0_0.length c0_0] 62 (0, 0)) (by exact kP BK435.out) hb)
 have n2_ := Aside0.mk (below_step (by exact bB) hb)
 clear BK435
 clear HB
 have HO440 := n0_
 have BK435 := n1_
 have HB := n2_
 clear n0_ n1_ n2_
 (try clear hb)
 (try clear hb2)
 (try clear hk)
 (try clear hi)
 (try clear ho0)
 obtain ⟨Ao12, co12, eo12⟩ := Kd.S_slice HO440.out
 (first | subst eo12 | (injection eo12 with f1_ f2_ f3_;have f4_ := f1_.symm;have f5_ := f3_.symm;clear f1_ f2_ f3_;subst f4_;subst f5_))
 refine hK.out _ _ ((blk_cell BK435.out 0).trans rfl) (fun hHeld => ?_)
 clear hK K
 refine norm_ (a' := ?_) ?_ ?_
 rotate_left
 ·show Act.put _ (some 18) _ = _
  simp only [Act.put, List.setIfInBounds_toArray, List.set_cons_zero, List.set_cons_succ, i64_w, i32_w]
  rfl
 refine pure_ (i := 6) (N := some 19) (v := ?_) (a' := ?_) #[true,true,true,true,true,true,true,false,false] rfl rfl (any_of HT_.out (by kernel_rfl)) (fun _ _ _ h => h) (Or.inl ⟨by rfl, ?_⟩) ?_ ?_
 rotate_left
 ·intro w'
  go_simp
  with_reducible rfl
 rotate_left
 ·simp only [Act.put, List.setIfInBounds_toArray, List.set_cons_zero, List.set_cons_succ, i64_w, i32_w]
  rfl
 refine one_ (i := 7) (N := some 20) #[true,true,true,true,true,true,true,true,false] rfl rfl (one_of HT_.out (by kernel_rfl)) (by decide) (fun K hK => ?_)
 refine box_step ?hg (N := 20) ?hd (cs := #[.int .i64 t436, .slice Ao12 t438.length co12, .slice none 0 0]) (t := 89) ?hr ?_;(case hd => rfl);(case hg => rfl);(case hr => first | (go_simp;done) | (go_simp;rfl))
 intro gb441 hg w13 hbox hb
 have n0_ := Aside0.mk (Kd.S_below (by (with_reducible repeat (first | apply Kd.S_alloc | apply Kd.S_drewN | apply Kd.S_drew));exact HO440.out) hb)
 have n1_ := Aside0.mk (blk_below (g := gb435) (o := .cells #[.slice A0_0 l0_0.length c0_0] 62 (0, 0)) (by exact kP BK435.out) hb)
 have n2_ := Aside0.mk (below_step (by exact bB) hb)
 have n3_ := Aside0.mk (hbox)
 have n4_ := Aside0.mk ((by rw [hg];exact (below_size (by exact bB)) : w.heap.size ≤ gb441))
 have n5_ := Aside0.mk ((by rw [hg];exact (below_size (by exact bB)) : w.heap.size ≤ gb441))
 have n6_ := Aside0.mk ((by rw [hg];exact Nat.ne_of_lt (blk_lt (g := gb435) (o := .cells #[.slice A0_0 l0_0.length c0_0] 62 (0, 0)) (by exact kP BK435.out)) : gb435 ≠ gb441))
 have n7_ := Aside0.mk ((by rw [hg];exact Nat.ne_of_gt (blk_lt (g := gb435) (o := .cells #[.slice A0_0 l0_0.length c0_0] 62 (0, 0)) (by exact kP BK435.out)) : gb441 ≠ gb435))
 clear HO440
 clear BK435
 clear HB
 have HO440 := n0_
 have BK435 := n1_
 have HB := n2_
 have BK441 := n3_
 have GW441 := n4_
 have GE441 := n5_
 have NB435_441 := n6_
 have NB441_435 := n7_
 clear n0_ n1_ n2_ n3_ n4_ n5_ n6_ n7_
 clear hb hbox hg
 refine hK.out _ _ ((blk_cell BK435.out 0).trans rfl) (fun hHeld => ?_)
 clear hK K
 refine norm_ (a' := ?_) ?_ ?_
 rotate_left
 ·show Act.put _ (some 20) _ = _
  simp only [Act.put, List.setIfInBounds_toArray, List.set_cons_zero, List.set_cons_succ, i64_w, i32_w]
  rfl
 refine pure_ (i := 8) (N := some 7) (v := ?_) (a' := ?_) #[true,true,true,true,true,true,true,true,true] rfl rfl (any_of HT_.out (by kernel_rfl)) (fun _ _ _ h => h) (Or.inl ⟨by rfl, ?_⟩) ?_ ?_
 rotate_left
 ·intro w'
  go_simp
  with_reducible rfl
 rotate_left
 ·simp only [Act.put, List.setIfInBounds_toArray, List.set_cons_zero, List.set_cons_succ, i64_w, i32_w]
  rfl
 refine done_ (done_of HT_.out (by kernel_rfl)) ?_
 have hnb14 := NB441_435.out
 have hnc14 := NB435_441.out
 have hcz15_0 : w13.cell? ⟨gb441, 0, none⟩ = some (.int .i64 t436) := (blk_cell BK441.out 0).trans rfl
 have hcz15_1 : w13.cell? ⟨gb441, 1, none⟩ = some (.slice Ao12 t438.length co12) := (blk_cell BK441.out 1).trans rfl
 have hcz15_2 : w13.cell? ⟨gb441, 2, none⟩ = some (.slice none 0 0) := (blk_cell BK441.out 2).trans rfl
 have hfz15_0 := blk_frozen BK441.out 0
 have hfz15_1 := blk_frozen BK441.out 1
 have hfz15_2 := blk_frozen BK441.out 2
 try go_wp2
 go_loopg [26] k (fun kq v26 w' => ∃ (x26_1 : Int) (x442002_1 : List (List Int)) (u442002 : Value), v26 = .int .i64 x26_1 ∧ Aside0 (impl_net_guardGame.l0 kq a2 t438 (t438.length : Int) x26_1 l0_0 t436 t438 x442002_1 = some (r1, r2, r3)) ∧ Aside0 (kq ≤ k) ∧ Aside0 (Kd.S (Kd.slice 3 (Kd.int .i64)) 32 w' w.heap.size (fun k_ => some k_ ≠ (u442002 : Value).ownBlock) (.slice Ao12 t438.length co12) t438) ∧ Aside0 (Kd.S (Kd.slice 3 (Kd.int .i64)) 32 w' w.heap.size (fun k_ => some k_ ≠ (u442002 : Value).ownBlock) (.slice Ao12 t438.length co12) t438) ∧ Aside0 (Kd.S (Kd.slice 3 (Kd.int .i64)) 32 w' w.heap.size (fun k_ => some k_ ≠ ((.slice Ao12 t438.length co12) : Value).ownBlock ∧ some k_ ≠ ((.slice Ao12 t438.length co12) : Value).ownBlock) u442002 x442002_1) ∧ Aside0 (w'.heap[gb435]? = some (.cells #[(.slice A0_0 l0_0.length c0_0)] 62 (0, 0))) ∧ Aside0 (w'.heap[gb441]? = some (.cells #[.int .i64 t436, (.slice Ao12 t438.length co12), u442002] 89 (0, 0))) ∧ Aside0 (Below w.heap.size w w'))
 case atStart => exact ⟨(0), (([] : List (List Int))), (.slice none 0 0), (by first | rfl | (simp;done) | (simp [*];done)), H', ⟨Nat.le_refl _⟩, ⟨by (with_reducible repeat (first | apply Kd.S_alloc | apply Kd.S_drewN | apply Kd.S_drew));exact Kd.S_mono HO440.out (fun _ hk => (by simp [Value.ownBlock]))⟩, ⟨by (with_reducible repeat (first | apply Kd.S_alloc | apply Kd.S_drewN | apply Kd.S_drew));exact Kd.S_mono HO440.out (fun _ hk => (by simp [Value.ownBlock]))⟩, ⟨by first | exact Kd.S_nil _ _ _ _ _ | exact Kd.N_nil _ _ _ _ _ | exact Kd.V_nil _ _ _ _ _ | exact Kd.Q_nil _ _ _ _ _ | exact Kd.R_nil _ _ _ _ _⟩, ⟨by exact kP BK435.out⟩, ⟨by exact kP BK441.out⟩, ⟨by exact bB⟩⟩
 case round =>
  clear H'
  try clear c1
  try clear p2
  try clear c6
  try clear c10
  try clear c14
  try clear hcz15_0
  try clear hcz15_1
  try clear hcz15_2
  try clear hfz15_0
  try clear hfz15_1
  try clear hfz15_2
  obtain ⟨x26_1, x442002_1, u442002, rfl, HA, HK1, HO_24, HO_442001, HO_442002, BK435, BK441, HB⟩ := hrel
  cases gk with
  | zero => exact absurd HA.out (by simp [impl_net_guardGame.l0])
  | succ k1 =>
   have H := HA.out
   clear HA
   simp only [impl_net_guardGame.l0] at H
   by_cases c16 : x26_1 < (t438.length : Int)
   ·rw [if_pos c16] at H
    have c16b0 : decide (x26_1 < (t438.length : Int)) = true := decide_eq_true c16
    clear c16
    by_cases c17 : 0 ≤ x26_1
    ·rw [if_pos c17] at H
     have c17b0 : decide (0 ≤ x26_1) = true := decide_eq_true c17
     clear c17
     by_cases c18 : x26_1 < (t438.length : Int)
     ·rw [if_pos c18] at H
      have c18b0 : decide (x26_1 < (t438.length : Int)) = true := decide_eq_true c18
      clear c18
      have H' := Aside0.mk H
      clear H
      have p442 : 0 ≤ (x26_1 : Int) := oA
      have q442 : x26_1 < (t438.length : Int) := oA
      obtain ⟨ad442, A442_0, c442_0, e442, hx442_0, hl442_0, hi442_0⟩ := at_L2 (Kd.S_reads' HO_24.out).2.2 x26_1 p442 q442
      cases e442
      obtain ⟨ce442, hce442, hMe442, hcc442⟩ := Kd.S_get HO_24.out [] x26_1 p442 (by first | exact q442 | exact oA | (have e_ := (Kd.S_reads' HO_24.out).1;omega))
      obtain ⟨ve442_0, rfl, ge442_0⟩ := hMe442
      have hv442_0 := hcc442 0 _ rfl
      rw [Nat.add_zero, show ((Kd.slice 3 (Kd.int .i64))).sz = 1 from rfl, Nat.mul_one] at hv442_0
      replace hv442_0 := Option.some.inj (hv442_0.symm.trans hx442_0)
      rw [hv442_0] at ge442_0
      have HL442_0 := Aside0.mk (show Kd.R (Kd.int .i64) 3 _ _ _ _ (rd_L2 t438 x26_1) from ge442_0)
      clear hv442_0 ge442_0
      clear hcc442 hce442
      have HR442_0 := Aside0.mk hi442_0
      have HC442_0 := Aside0.mk hl442_0
      clear hi442_0 hl442_0
      replace p442 := eq_true p442
      replace q442 := eq_true q442
      have hnb19 := NB441_435.out
      have hnc19 := NB435_441.out
      have hcz20_0 : wr.cell? ⟨gb441, 0, none⟩ = some (.int .i64 t436) := (blk_cell BK441.out 0).trans rfl
      have hcz20_1 : wr.cell? ⟨gb441, 1, none⟩ = some (.slice (some ad442) t438.length co12) := (blk_cell BK441.out 1).trans rfl
      have hcz20_2 : wr.cell? ⟨gb441, 2, none⟩ = some (u442002) := (blk_cell BK441.out 2).trans rfl
      have hfz20_0 := blk_frozen BK441.out 0
      have hfz20_1 := blk_frozen BK441.out 1
      have hfz20_2 := blk_frozen BK441.out 2
      go_wp2
      have HF := Aside0.mk (Kd.R_mono (ok' := fun k_ => some k_ ≠ (u442002 : Value).ownBlock) HL442_0.out (fun _ hk => hk.1))
      go_loopg [10, 35] k1 (fun kq v10 v35 w' => ∃ (x10_2 : List Int) (x35_2 : Int), v35 = .int .i64 x35_2 ∧ Aside0 (impl_net_guardGame.l1 kq a2 (rd_L2 t438 x26_1) x10_2 t438 (t438.length : Int) x26_1 t438 (t438.length : Int) x35_2 l0_0 t436 t438 x442002_1 = some (r1, r2, r3)) ∧ Aside0 (kq ≤ k1) ∧ Aside0 (Kd.R (Kd.int .i64) 3 w' w.heap.size (fun _ => True) v10 x10_2) ∧ Aside0 (Kd.S (Kd.slice 3 (Kd.int .i64)) 32 w' w.heap.size (fun k_ => some k_ ≠ (v10 : Value).ownBlock ∧ some k_ ≠ (u442002 : Value).ownBlock) (.slice (some ad442) t438.length co12) t438) ∧ Aside0 (Kd.R (Kd.int .i64) 3 w' w.heap.size (fun k_ => some k_ ≠ (v10 : Value).ownBlock ∧ some k_ ≠ (u442002 : Value).ownBlock) (.slice A442_0 (rd_L2 t438 x26_1).length c442_0) (rd_L2 t438 x26_1)) ∧ Aside0 (Kd.S (Kd.slice 3 (Kd.int .i64)) 32 w' w.heap.size (fun k_ => some k_ ≠ (v10 : Value).ownBlock ∧ some k_ ≠ (u442002 : Value).ownBlock) (.slice (some ad442) t438.length co12) t438) ∧ Aside0 (Kd.S (Kd.slice 3 (Kd.int .i64)) 32 w' w.heap.size (fun k_ => some k_ ≠ (v10 : Value).ownBlock ∧ some k_ ≠ (u442002 : Value).ownBlock) (.slice (some ad442) t438.length co12) t438) ∧ Aside0 (Kd.S (Kd.slice 3 (Kd.int .i64)) 32 w' w.heap.size (fun k_ => some k_ ≠ (v10 : Value).ownBlock ∧ some k_ ≠ ((.slice (some ad442) t438.length co12) : Value).ownBlock ∧ some k_ ≠ ((.slice (some ad442) t438.length co12) : Value).ownBlock ∧ some k_ ≠ ((.slice (some ad442) t438.length co12) : Value).ownBlock) u442002 x442002_1) ∧ Aside0 (w'.heap[gb435]? = some (.cells #[(.slice A0_0 l0_0.length c0_0)] 62 (0, 0))) ∧ Aside0 (w'.heap[gb441]? = some (.cells #[.int .i64 t436, (.slice (some ad442) t438.length co12), u442002] 89 (0, 0))) ∧ Aside0 (Below w.heap.size w w'))
      case atStart => exact ⟨(([] : List Int)), (0), (by first | rfl | (simp;done) | (simp [*];done)), H', ⟨Nat.le_refl _⟩, ⟨by first | exact Kd.R_nil _ _ _ _ _ | exact Kd.N_nil _ _ _ _ _ | exact Kd.V_nil _ _ _ _ _ | exact Kd.Q_nil _ _ _ _ _ | exact Kd.S_nil _ _ _ _ _⟩, ⟨by (with_reducible repeat (first | apply Kd.S_alloc | apply Kd.S_drewN | apply Kd.S_drew));exact Kd.S_mono HO_24.out (fun _ hk => ⟨(by simp [Value.ownBlock]), hk⟩)⟩, ⟨by refine rP ?_;exact Kd.R_mono HF.out (fun _ hk => ⟨(by simp [Value.ownBlock]), hk⟩)⟩, ⟨by (with_reducible repeat (first | apply Kd.S_alloc | apply Kd.S_drewN | apply Kd.S_drew));exact Kd.S_mono HO_442001.out (fun _ hk => ⟨(by simp [Value.ownBlock]), hk⟩)⟩, ⟨by (with_reducible repeat (first | apply Kd.S_alloc | apply Kd.S_drewN | apply Kd.S_drew));exact Kd.S_mono HO_442001.out (fun _ hk => ⟨(by simp [Value.ownBlock]), hk⟩)⟩, ⟨by (with_reducible repeat (first | apply Kd.S_alloc | apply Kd.S_drewN | apply Kd.S_drew));exact Kd.S_mono HO_442002.out (fun _ hk => ⟨(by simp [Value.ownBlock]), ⟨hk.1, ⟨hk.2, hk.2⟩⟩⟩)⟩, ⟨by exact kP BK435.out⟩, ⟨by exact kP BK441.out⟩, ⟨by exact bB⟩⟩
      case round =>
       clear H'
       try clear c1
       try clear p2
       try clear c4
       try clear p4
       try clear q4
       try clear hx4
       try clear c6
       try clear c10
       try clear c14
       try clear c16
       try clear c16b0
       try clear c17
       try clear c17b0
       try clear c18
       try clear c18b0
       try clear c19
       try clear hcz15_0
       try clear hcz15_1
       try clear hcz15_2
       try clear hcz20_0
       try clear hcz20_1
       try clear hcz20_2
       try clear hfz15_0
       try clear hfz15_1
       try clear hfz15_2
       try clear hfz20_0
       try clear hfz20_1
       try clear hfz20_2
       try clear hx442_0
       try clear p2
       try clear p442
       try clear q442
       obtain ⟨x10_2, x35_2, rfl, HA, HK2, HO_10, HO_24, HF, HO_33, HO_442001, HO_442002, BK435, BK441, HB⟩ := hrel
       cases gk with
       | zero => exact absurd HA.out (by simp [impl_net_guardGame.l1])
       | succ k2 =>
        have H := HA.out
        clear HA
        simp only [impl_net_guardGame.l1] at H
        by_cases c21 : x35_2 < (t438.length : Int)
        ·rw [if_pos c21] at H
         have c21b0 : decide (x35_2 < (t438.length : Int)) = true := decide_eq_true c21
         clear c21
         by_cases c22 : 0 ≤ x35_2
         ·rw [if_pos c22] at H
          have c22b0 : decide (0 ≤ x35_2) = true := decide_eq_true c22
          clear c22
          by_cases c23 : x35_2 < (t438.length : Int)
          ·rw [if_pos c23] at H
           have c23b0 : decide (x35_2 < (t438.length : Int)) = true := decide_eq_true c23
           clear c23
           replace H := Option.bind_eq_some_iff.mp H
           obtain ⟨t447, A240, H⟩ := H
           replace H : ((impl_maskOf.f k2 (rd_L2 t438 x35_2)).bind fun t448 => ((impl_net_canMoveGuards.f k2 l0_0 t447 t448 a2).bind fun t449 => (if t449 = true then (if x10_2.length < 17592186044416 then (impl_net_guardGame.l1 k2 a2 (rd_L2 t438 x26_1) (x10_2 ++ [x35_2]) t438 (t438.length : Int) x26_1 t438 (t438.length : Int) (wrap64 (x35_2 + 1)) l0_0 t436 t438 x442002_1) else (none)) else (impl_net_guardGame.l1 k2 a2 (rd_L2 t438 x26_1) x10_2 t438 (t438.length : Int) x26_1 t438 (t438.length : Int) (wrap64 (x35_2 + 1)) l0_0 t436 t438 x442002_1)))) = some (r1, r2, r3) := H
           have A24 := Aside0.mk A240
           clear A240
           replace H := Option.bind_eq_some_iff.mp H
           obtain ⟨t448, A250, H⟩ := H
           replace H : ((impl_net_canMoveGuards.f k2 l0_0 t447 t448 a2).bind fun t449 => (if t449 = true then (if x10_2.length < 17592186044416 then (impl_net_guardGame.l1 k2 a2 (rd_L2 t438 x26_1) (x10_2 ++ [x35_2]) t438 (t438.length : Int) x26_1 t438 (t438.length : Int) (wrap64 (x35_2 + 1)) l0_0 t436 t438 x442002_1) else (none)) else (impl_net_guardGame.l1 k2 a2 (rd_L2 t438 x26_1) x10_2 t438 (t438.length : Int) x26_1 t438 (t438.length : Int) (wrap64 (x35_2 + 1)) l0_0 t436 t438 x442002_1))) = some (r1, r2, r3) := H
           have A25 := Aside0.mk A250
           clear A250
           replace H := Option.bind_eq_some_iff.mp H
           obtain ⟨t449, A260, H⟩ := H
           replace H : (if t449 = true then (if x10_2.length < 17592186044416 then (impl_net_guardGame.l1 k2 a2 (rd_L2 t438 x26_1) (x10_2 ++ [x35_2]) t438 (t438.length : Int) x26_1 t438 (t438.length : Int) (wrap64 (x35_2 + 1)) l0_0 t436 t438 x442002_1) else (none)) else (impl_net_guardGame.l1 k2 a2 (rd_L2 t438 x26_1) x10_2 t438 (t438.length : Int) x26_1 t438 (t438.length : Int) (wrap64 (x35_2 + 1)) l0_0 t436 t438 x442002_1)) = some (r1, r2, r3) := H
           have A26 := Aside0.mk A260
           clear A260
           by_cases c27 : t449 = true
           ·subst c27
            have H1 : (if x10_2.length < 17592186044416 then (impl_net_guardGame.l1 k2 a2 (rd_L2 t438 x26_1) (x10_2 ++ [x35_2]) t438 (t438.length : Int) x26_1 t438 (t438.length : Int) (wrap64 (x35_2 + 1)) l0_0 t436 t438 x442002_1) else (none)) = some (r1, r2, r3) := by rw [if_pos rfl] at H;exact H
            clear H
            have H := H1
            clear H1
            by_cases c28 : x10_2.length < 17592186044416
            ·rw [if_pos c28] at H
             have LMc28 := Aside0.mk c28
             clear c28
             obtain ⟨y450, hy450⟩ : ∃ y_ : List Int, y_ = (x10_2 ++ [x35_2]) := ⟨_, rfl⟩
             replace H : (impl_net_guardGame.l1 k2 a2 (rd_L2 t438 x26_1) y450 t438 (t438.length : Int) x26_1 t438 (t438.length : Int) (wrap64 (x35_2 + 1)) l0_0 t436 t438 x442002_1) = some (r1, r2, r3) := by first | (rw [hy450];with_reducible exact H) | (have H2_ := (Option.bind_some _ _).symm.trans H;rw [hy450];with_reducible exact H2_) | (have H2_ := (Option.bind_some _ _).symm.trans H;with_reducible exact H2_) | with_reducible exact H | (rw [hy450];exact H) | exact H
             have Ny450 := Aside0.mk hy450
             clear hy450
             have H' := Aside0.mk H
             clear H
             have p446 : 0 ≤ (x35_2 : Int) := oA
             have q446 : x35_2 < (t438.length : Int) := oA
             obtain ⟨ad446, A446_0, c446_0, e446, hx446_0, hl446_0, hi446_0⟩ := at_L2 (Kd.S_reads' HO_33.out).2.2 x35_2 p446 q446
             obtain rfl : ad442 = ad446 := (by injection e446)
             obtain ⟨ce446, hce446, hMe446, hcc446⟩ := Kd.S_get HO_33.out [] x35_2 p446 (by first | exact q446 | exact oA | (have e_ := (Kd.S_reads' HO_33.out).1;omega))
             obtain ⟨ve446_0, rfl, ge446_0⟩ := hMe446
             have hv446_0 := hcc446 0 _ rfl
             rw [Nat.add_zero, show ((Kd.slice 3 (Kd.int .i64))).sz = 1 from rfl, Nat.mul_one] at hv446_0
             replace hv446_0 := Option.some.inj (hv446_0.symm.trans hx446_0)
             rw [hv446_0] at ge446_0
             have HL446_0 := Aside0.mk (show Kd.R (Kd.int .i64) 3 _ _ _ _ (rd_L2 t438 x35_2) from ge446_0)
             clear hv446_0 ge446_0
             clear hcc446 hce446
             have HR446_0 := Aside0.mk hi446_0
             have HC446_0 := Aside0.mk hl446_0
             clear hi446_0 hl446_0
             replace p446 := eq_true p446
             replace q446 := eq_true q446
             try go_wp2
             have n0_ := Aside0.mk (Kd.R_drew HO_10.out)
             have n1_ := Aside0.mk (Kd.S_drew HO_24.out);have n90_ := Aside0.mk (Kd.R_drew HF.out)
             have n2_ := Aside0.mk (Kd.S_drew HO_33.out)
             have n3_ := Aside0.mk (Kd.S_drew HO_442001.out)
             have n4_ := Aside0.mk (Kd.S_drew HO_442002.out)
             have n5_ := Aside0.mk (Kd.R_drew HL446_0.out)
             have n6_ := Aside0.mk (blk_drew BK435.out)
             have n7_ := Aside0.mk (blk_drew BK441.out)
             have n8_ := Aside0.mk (Kd.C_drew HR446_0.out)
             have n9_ := Aside0.mk (below_drew1 HB.out)
             clear HO_10
             clear HO_24 HF
             clear HO_33
             clear HO_442001
             clear HO_442002
             clear HL446_0
             clear BK435
             clear BK441
             clear HR446_0
             clear HB
             have HO_10 := n0_
             have HO_24 := n1_;have HF := n90_;clear n90_
             have HO_33 := n2_
             have HO_442001 := n3_
             have HO_442002 := n4_
             have HL446_0 := n5_
             have BK435 := n6_
             have BK441 := n7_
             have HR446_0 := n8_
             have HB := n9_
             clear n0_ n1_ n2_ n3_ n4_ n5_ n6_ n7_ n8_ n9_
             refine start_ (n := 7) (S := fun w' => w'.cell? ⟨gb435, 0, none⟩ = some (.slice A0_0 l0_0.length c0_0)) (ds := []) #[false,false,false,false,false,false,false] (by kernel_rfl) rfl rfl ((blk_cell BK435.out 0).trans rfl) (fun hHeld => ?_)
             generalize wr.drew = w29 at HO_10 HO_24 HF HO_33 HO_442001 HO_442002 HL446_0 BK435 BK441 HR446_0 HB hHeld ⊢
             refine pure_ (i := 1) (N := some 41) (v := ?_) (a' := ?_) #[false,true,false,false,false,false,false] rfl rfl (by kernel_rfl) (fun _ _ _ h => h) (Or.inl ⟨by rfl, ?_⟩) ?_ ?_
             rotate_left
             ·intro w'
              go_simp
              with_reducible rfl
             rotate_left
             ·simp only [Act.put, List.setIfInBounds_toArray, List.set_cons_zero, List.set_cons_succ, i64_w, i32_w]
              rfl
             refine pure_ (i := 3) (N := some 43) (v := ?_) (a' := ?_) #[false,true,false,true,false,false,false] rfl rfl (by kernel_rfl) (fun _ _ _ h => h) (Or.inl ⟨by rfl, ?_⟩) ?_ ?_
             rotate_left
             ·intro w'
              go_simp
              with_reducible rfl
             rotate_left
             ·simp only [Act.put, List.setIfInBounds_toArray, List.set_cons_zero, List.set_cons_succ, i64_w, i32_w]
              rfl
             refine pure_ (i := 5) (N := some 45) (v := ?_) (a' := ?_) #[false,true,false,true,false,true,false] rfl rfl (by kernel_rfl) (fun _ _ _ h => h) (Or.inl ⟨by rfl, ?_⟩) ?_ ?_
             rotate_left
             ·intro w'
              go_simp
              with_reducible rfl
             rotate_left
             ·simp only [Act.put, List.setIfInBounds_toArray, List.set_cons_zero, List.set_cons_succ, i64_w, i32_w]
              rfl
             refine take_ (i := 0) (N := some 40) (v := ?_) (a' := ?_) #[true,true,false,true,false,true,false] rfl rfl (by kernel_rfl) (fun _ _ _ h => h) (Or.inl ⟨by rfl, ?_⟩) hHeld ?_ ?_
             rotate_left
             ·intro w' s0
              go_simp
              with_reducible rfl
             rotate_left
             ·simp only [Act.put, List.setIfInBounds_toArray, List.set_cons_zero, List.set_cons_succ, i64_w, i32_w]
              rfl
             refine one_ (i := 2) (N := some 42) #[true,true,true,true,false,true,false] rfl rfl (by kernel_rfl) (by decide) (fun K hK => ?_)
             refine goes_ Tryd.func54 (by kernel_rfl) rfl #[.slice A442_0 (rd_L2 t438 x26_1).length c442_0] (by rfl) rfl rfl mM ?_
             with_reducible refine (impl_maskOf.calls k2 _ _ (rd_L2 t438 x26_1) t447 _ ?side1 ?side2 A24.out).mono ?_
             (case side1 => exact cP (Kd.R_reads' HF.out).2.2)
             (case side2 => exact HC442_0.out)
             rintro e w' ⟨rfl, ⟨nd, rfl⟩⟩
             refine ⟨_, rfl, ?_⟩
             refine hK.out _ _ ((blk_cell BK435.out 0).trans rfl) (fun hHeld => ?_)
             clear hK K
             refine norm_ (a' := ?_) ?_ ?_
             rotate_left
             ·show Act.put _ (some 42) _ = _
              simp only [Act.put, List.setIfInBounds_toArray, List.set_cons_zero, List.set_cons_succ, i64_w, i32_w]
              rfl
             refine one_ (i := 4) (N := some 44) #[true,true,true,true,true,true,false] rfl rfl (by kernel_rfl) (by decide) (fun K hK => ?_)
             refine goes_ Tryd.func54 (by kernel_rfl) rfl #[.slice A446_0 (rd_L2 t438 x35_2).length c446_0] (by rfl) rfl rfl mM ?_
             with_reducible refine (impl_maskOf.calls k2 _ _ (rd_L2 t438 x35_2) t448 _ ?side1 ?side2 A25.out).mono ?_
             (case side1 => exact cP (by repeat (first | (with_reducible exact HR446_0.out) | (with_reducible refine Kd.C_alloc ?_ _) | (with_reducible refine Kd.C_drewN ?_ _) | (with_reducible refine Kd.C_drew ?_) | exact HR446_0.out)))
             (case side2 => exact HC446_0.out)
             rintro e w' ⟨rfl, ⟨nd, rfl⟩⟩
             refine ⟨_, rfl, ?_⟩
             refine hK.out _ _ ((blk_cell BK435.out 0).trans rfl) (fun hHeld => ?_)
             clear hK K
             refine norm_ (a' := ?_) ?_ ?_
             rotate_left
             ·show Act.put _ (some 44) _ = _
              simp only [Act.put, List.setIfInBounds_toArray, List.set_cons_zero, List.set_cons_succ, i64_w, i32_w]
              rfl
             refine one_ (i := 6) (N := some 46) #[true,true,true,true,true,true,true] rfl rfl (by kernel_rfl) (by decide) (fun K hK => ?_)
             refine goes_ Tryd.func53 (by kernel_rfl) rfl #[.agg #[.slice A0_0 l0_0.length c0_0], .int .i64 t447, .int .i64 t448, .bool a2] (by rfl) rfl rfl mM ?_
             with_reducible refine (impl_net_canMoveGuards.calls k2 _ _ l0_0 t447 t448 a2 true _ ?sideT ?side1 ?side2 A26.out).mono ?_
             (case sideT => exact tabG_below HT.out (by exact bB))
             (case side1 => exact cP (Kd.C_below HR0_0.out (by repeat (first | (with_reducible first | exact HB.out | apply below_alloc | apply pw_below_drewN | apply below_drew1 | refine below_set ?_ GE435.out | refine below_set ?_ GE441.out) | exact HB.out))))
             (case side2 => exact HC0_0.out)
             rintro e w30 ⟨rfl, hb⟩
             refine ⟨_, rfl, ?_⟩
             have n0_ := Aside0.mk (Kd.R_below (by exact rP HO_10.out) hb)
             have n1_ := Aside0.mk (Kd.S_below (by (with_reducible repeat (first | apply Kd.S_alloc | apply Kd.S_drewN | apply Kd.S_drew));exact HO_24.out) hb);have n90_ := Aside0.mk (Kd.R_below (by exact rP HF.out) hb)
             have n2_ := Aside0.mk (Kd.S_below (by (with_reducible repeat (first | apply Kd.S_alloc | apply Kd.S_drewN | apply Kd.S_drew));exact HO_33.out) hb)
             have n3_ := Aside0.mk (Kd.S_below (by (with_reducible repeat (first | apply Kd.S_alloc | apply Kd.S_drewN | apply Kd.S_drew));exact HO_442001.out) hb)
             have n4_ := Aside0.mk (Kd.S_below (by (with_reducible repeat (first | apply Kd.S_alloc | apply Kd.S_drewN | apply Kd.S_drew));exact HO_442002.out) hb)
             have n5_ := Aside0.mk (Kd.R_below (by exact rP HL446_0.out) hb)
             have n6_ := Aside0.mk (blk_below (g := gb435) (o := .cells #[.slice A0_0 l0_0.length c0_0] 62 (0, 0)) (by exact kP BK435.out) hb)
             have n7_ := Aside0.mk (blk_below (g := gb441) (o := .cells #[.int .i64 t436, .slice (some ad442) t438.length co12, u442002] 89 (0, 0)) (by exact kP BK441.out) hb)
             have n8_ := Aside0.mk (Kd.C_below (by repeat (first | (with_reducible exact HR446_0.out) | (with_reducible refine Kd.C_alloc ?_ _) | (with_reducible refine Kd.C_drewN ?_ _) | (with_reducible refine Kd.C_drew ?_) | exact HR446_0.out)) hb)
             have n9_ := Aside0.mk (below_step (by exact bB) hb)
             clear HO_10
             clear HO_24 HF
             clear HO_33
             clear HO_442001
             clear HO_442002
             clear HL446_0
             clear BK435
             clear BK441
             clear HR446_0
             clear HB
             have HO_10 := n0_
             have HO_24 := n1_;have HF := n90_;clear n90_
             have HO_33 := n2_
             have HO_442001 := n3_
             have HO_442002 := n4_
             have HL446_0 := n5_
             have BK435 := n6_
             have BK441 := n7_
             have HR446_0 := n8_
             have HB := n9_
             clear n0_ n1_ n2_ n3_ n4_ n5_ n6_ n7_ n8_ n9_
             (try clear hb)
             (try clear hb2)
             (try clear hk)
             (try clear hi)
             refine hK.out _ _ ((blk_cell BK435.out 0).trans rfl) (fun hHeld => ?_)
             clear hK K
             refine norm_ (a' := ?_) ?_ ?_
             rotate_left
             ·show Act.put _ (some 46) _ = _
              simp only [Act.put, List.setIfInBounds_toArray, List.set_cons_zero, List.set_cons_succ, i64_w, i32_w]
              rfl
             refine done_ (by kernel_rfl) ?_
             try go_wp2_with (first | ((with_reducible refine gate_builtin (b := .append) (xs := #[.tmp 47, .tmp 49]) rfl ?_);at_builtin;refine Kd.R_append (Kd.int .i64) (w0 := w) w.heap.size rfl (.tmp 47) (.tmp 49) 32 3 (.int .i64 0) 8 rfl Tryd.underlying32 info3 rfl (by decide) (by omega) u10 x10_2 x35_2 [.int .i64 x35_2] (fun _ => True) (fun _ => False) rfl rfl ?aP (fun _ hk => hk.elim) ?aF ?aO ?aB ?aS ?aL ?_;(case aP => exact rfl);(case aB => exact (by exact bB));(case aF => exact (fun _ _ => trivial));(case aO => exact (by exact rP HO_10.out));(case aS => exact (below_size (by exact bB)));(case aL => have := LMc28.out;omega);intro v451 w31 ho hb hg hat;rw [← Ny450.out] at ho;have n0_ := Aside0.mk (Kd.S_after (ok := (fun k_ => some k_ ≠ (u442002 : Value).ownBlock)) (by (with_reducible repeat (first | apply Kd.S_alloc | apply Kd.S_drewN | apply Kd.S_drew));exact Kd.S_mono HO_24.out (fun _ hk => ⟨hk.2, hk.1⟩)) hg hat);have n90_ := Aside0.mk (Kd.R_after (ok := (fun k_ => some k_ ≠ (u442002 : Value).ownBlock)) (by exact rP (Kd.R_mono HF.out (fun _ hk => ⟨hk.2, hk.1⟩))) hg hat);have n1_ := Aside0.mk (Kd.S_after (ok := (fun k_ => some k_ ≠ (u442002 : Value).ownBlock)) (by (with_reducible repeat (first | apply Kd.S_alloc | apply Kd.S_drewN | apply Kd.S_drew));exact Kd.S_mono HO_33.out (fun _ hk => ⟨hk.2, hk.1⟩)) hg hat);have n2_ := Aside0.mk (Kd.S_after (ok := (fun k_ => some k_ ≠ (u442002 : Value).ownBlock)) (by (with_reducible repeat (first | apply Kd.S_alloc | apply Kd.S_drewN | apply Kd.S_drew));exact Kd.S_mono HO_442001.out (fun _ hk => ⟨hk.2, hk.1⟩)) hg hat);have n3_ := Aside0.mk (Kd.S_after (ok := (fun k_ => some k_ ≠ (.slice (some ad442) t438.length co12 : Value).ownBlock ∧ some k_ ≠ (.slice (some ad442) t438.length co12 : Value).ownBlock ∧ some k_ ≠ (.slice (some ad442) t438.length co12 : Value).ownBlock)) (by (with_reducible repeat (first | apply Kd.S_alloc | apply Kd.S_drewN | apply Kd.S_drew));exact Kd.S_mono HO_442002.out (fun _ hk => ⟨⟨hk.2.1, ⟨hk.2.2.1, hk.2.2.2⟩⟩, hk.1⟩)) hg hat);have n4_ := Aside0.mk (blk_grown (g := gb435) (o := .cells #[.slice A0_0 l0_0.length c0_0] 62 (0, 0)) (by exact kP BK435.out) hg (Kd.R_ne HO_10.out BK435.out (by decide)));have n5_ := Aside0.mk (blk_grown (g := gb441) (o := .cells #[.int .i64 t436, .slice (some ad442) t438.length co12, u442002] 89 (0, 0)) (by exact kP BK441.out) hg (Kd.R_ne HO_10.out BK441.out (by decide)));have n6_ := Aside0.mk (Kd.R_after (ok := (fun k_ => some k_ ≠ (.slice (some ad442) t438.length co12 : Value).ownBlock ∧ some k_ ≠ (u442002 : Value).ownBlock)) (by exact rP (Kd.R_mono HL446_0.out (fun _ hk => ⟨⟨hk.2, hk.1.2⟩, hk.1.1⟩))) hg hat);have n7_ := Aside0.mk (hb);have n8_ := Aside0.mk (ho);clear HO_24 HF;clear HO_33;clear HO_442001;clear HO_442002;clear BK435;clear BK441;clear HL446_0;clear HB;clear HO_10;have HO_24 := n0_;have HF := n90_;clear n90_;have HO_33 := n1_;have HO_442001 := n2_;have HO_442002 := n3_;have BK435 := n4_;have BK441 := n5_;have HL446_0 := n6_;have HB := n7_;have HO452 := n8_;clear n0_ n1_ n2_ n3_ n4_ n5_ n6_ n7_ n8_;clear ho hb hg hat))
             go_roundg k2
             case measure => have := HK1.out;have := HK2.out;omega
             case rel => exact ⟨(y450), (wrap64 (x35_2 + 1)), (by first | rfl | (simp;done) | (simp [*];done)), H', ⟨by have := HK1.out;have := HK2.out;omega⟩, ⟨by exact rP HO452.out⟩, ⟨by (with_reducible repeat (first | apply Kd.S_alloc | apply Kd.S_drewN | apply Kd.S_drew));exact Kd.S_mono HO_24.out (fun _ hk => ⟨hk.2, hk.1⟩)⟩, ⟨by refine rP ?_;exact Kd.R_mono HF.out (fun _ hk => ⟨hk.2, hk.1⟩)⟩, ⟨by (with_reducible repeat (first | apply Kd.S_alloc | apply Kd.S_drewN | apply Kd.S_drew));exact Kd.S_mono HO_33.out (fun _ hk => ⟨hk.2, hk.1⟩)⟩, ⟨by (with_reducible repeat (first | apply Kd.S_alloc | apply Kd.S_drewN | apply Kd.S_drew));exact Kd.S_mono HO_442001.out (fun _ hk => ⟨hk.2, hk.1⟩)⟩, ⟨by (with_reducible repeat (first | apply Kd.S_alloc | apply Kd.S_drewN | apply Kd.S_drew));exact Kd.S_mono HO_442002.out (fun _ hk => ⟨hk.2, ⟨hk.1.1, ⟨hk.1.2.1, hk.1.2.2⟩⟩⟩)⟩, ⟨by exact kP BK435.out⟩, ⟨by exact kP BK441.out⟩, ⟨by exact bB⟩⟩
            ·rw [if_neg c28] at H
             exact absurd H (by simp)
           ·replace c27 := Bool.eq_false_iff.mpr c27
            subst c27
            have H1 : (impl_net_guardGame.l1 k2 a2 (rd_L2 t438 x26_1) x10_2 t438 (t438.length : Int) x26_1 t438 (t438.length : Int) (wrap64 (x35_2 + 1)) l0_0 t436 t438 x442002_1) = some (r1, r2, r3) := by rw [if_neg (show ¬ (false = true) by decide)] at H;exact H
            clear H
            have H := H1
            clear H1
            have H' := Aside0.mk H
            clear H
            have p446 : 0 ≤ (x35_2 : Int) := oA
            have q446 : x35_2 < (t438.length : Int) := oA
            obtain ⟨ad446, A446_0, c446_0, e446, hx446_0, hl446_0, hi446_0⟩ := at_L2 (Kd.S_reads' HO_33.out).2.2 x35_2 p446 q446
            obtain rfl : ad442 = ad446 := (by injection e446)
            obtain ⟨ce446, hce446, hMe446, hcc446⟩ := Kd.S_get HO_33.out [] x35_2 p446 (by first | exact q446 | exact oA | (have e_ := (Kd.S_reads' HO_33.out).1;omega))
            obtain ⟨ve446_0, rfl, ge446_0⟩ := hMe446
            have hv446_0 := hcc446 0 _ rfl
            rw [Nat.add_zero, show ((Kd.slice 3 (Kd.int .i64))).sz = 1 from rfl, Nat.mul_one] at hv446_0
            replace hv446_0 := Option.some.inj (hv446_0.symm.trans hx446_0)
            rw [hv446_0] at ge446_0
            have HL446_0 := Aside0.mk (show Kd.R (Kd.int .i64) 3 _ _ _ _ (rd_L2 t438 x35_2) from ge446_0)
            clear hv446_0 ge446_0
            clear hcc446 hce446
            have HR446_0 := Aside0.mk hi446_0
            have HC446_0 := Aside0.mk hl446_0
            clear hi446_0 hl446_0
            replace p446 := eq_true p446
            replace q446 := eq_true q446
            try go_wp2
            have n0_ := Aside0.mk (Kd.R_drew HO_10.out)
            have n1_ := Aside0.mk (Kd.S_drew HO_24.out);have n90_ := Aside0.mk (Kd.R_drew HF.out)
            have n2_ := Aside0.mk (Kd.S_drew HO_33.out)
            have n3_ := Aside0.mk (Kd.S_drew HO_442001.out)
            have n4_ := Aside0.mk (Kd.S_drew HO_442002.out)
            have n5_ := Aside0.mk (Kd.R_drew HL446_0.out)
            have n6_ := Aside0.mk (blk_drew BK435.out)
            have n7_ := Aside0.mk (blk_drew BK441.out)
            have n8_ := Aside0.mk (Kd.C_drew HR446_0.out)
            have n9_ := Aside0.mk (below_drew1 HB.out)
            clear HO_10
            clear HO_24 HF
            clear HO_33
            clear HO_442001
            clear HO_442002
            clear HL446_0
            clear BK435
            clear BK441
            clear HR446_0
            clear HB
            have HO_10 := n0_
            have HO_24 := n1_;have HF := n90_;clear n90_
            have HO_33 := n2_
            have HO_442001 := n3_
            have HO_442002 := n4_
            have HL446_0 := n5_
            have BK435 := n6_
            have BK441 := n7_
            have HR446_0 := n8_
            have HB := n9_
            clear n0_ n1_ n2_ n3_ n4_ n5_ n6_ n7_ n8_ n9_
            refine start_ (n := 7) (S := fun w' => w'.cell? ⟨gb435, 0, none⟩ = some (.slice A0_0 l0_0.length c0_0)) (ds := []) #[false,false,false,false,false,false,false] (by kernel_rfl) rfl rfl ((blk_cell BK435.out 0).trans rfl) (fun hHeld => ?_)
            generalize wr.drew = w32 at HO_10 HO_24 HF HO_33 HO_442001 HO_442002 HL446_0 BK435 BK441 HR446_0 HB hHeld ⊢
            refine pure_ (i := 1) (N := some 41) (v := ?_) (a' := ?_) #[false,true,false,false,false,false,false] rfl rfl (by kernel_rfl) (fun _ _ _ h => h) (Or.inl ⟨by rfl, ?_⟩) ?_ ?_
            rotate_left
            ·intro w'
             go_simp
             with_reducible rfl
            rotate_left
            ·simp only [Act.put, List.setIfInBounds_toArray, List.set_cons_zero, List.set_cons_succ, i64_w, i32_w]
             rfl
            refine pure_ (i := 3) (N := some 43) (v := ?_) (a' := ?_) #[false,true,false,true,false,false,false] rfl rfl (by kernel_rfl) (fun _ _ _ h => h) (Or.inl ⟨by rfl, ?_⟩) ?_ ?_
            rotate_left
            ·intro w'
             go_simp
             with_reducible rfl
            rotate_left
            ·simp only [Act.put, List.setIfInBounds_toArray, List.set_cons_zero, List.set_cons_succ, i64_w, i32_w]
             rfl
            refine pure_ (i := 5) (N := some 45) (v := ?_) (a' := ?_) #[false,true,false,true,false,true,false] rfl rfl (by kernel_rfl) (fun _ _ _ h => h) (Or.inl ⟨by rfl, ?_⟩) ?_ ?_
            rotate_left
            ·intro w'
             go_simp
             with_reducible rfl
            rotate_left
            ·simp only [Act.put, List.setIfInBounds_toArray, List.set_cons_zero, List.set_cons_succ, i64_w, i32_w]
             rfl
            refine take_ (i := 0) (N := some 40) (v := ?_) (a' := ?_) #[true,true,false,true,false,true,false] rfl rfl (by kernel_rfl) (fun _ _ _ h => h) (Or.inl ⟨by rfl, ?_⟩) hHeld ?_ ?_
            rotate_left
            ·intro w' s0
             go_simp
             with_reducible rfl
            rotate_left
            ·simp only [Act.put, List.setIfInBounds_toArray, List.set_cons_zero, List.set_cons_succ, i64_w, i32_w]
             rfl
            refine one_ (i := 2) (N := some 42) #[true,true,true,true,false,true,false] rfl rfl (by kernel_rfl) (by decide) (fun K hK => ?_)
            refine goes_ Tryd.func54 (by kernel_rfl) rfl #[.slice A442_0 (rd_L2 t438 x26_1).length c442_0] (by rfl) rfl rfl mM ?_
            with_reducible refine (impl_maskOf.calls k2 _ _ (rd_L2 t438 x26_1) t447 _ ?side1 ?side2 A24.out).mono ?_
            (case side1 => exact cP (Kd.R_reads' HF.out).2.2)
            (case side2 => exact HC442_0.out)
            rintro e w' ⟨rfl, ⟨nd, rfl⟩⟩
            refine ⟨_, rfl, ?_⟩
            refine hK.out _ _ ((blk_cell BK435.out 0).trans rfl) (fun hHeld => ?_)
            clear hK K
            refine norm_ (a' := ?_) ?_ ?_
            rotate_left
            ·show Act.put _ (some 42) _ = _
             simp only [Act.put, List.setIfInBounds_toArray, List.set_cons_zero, List.set_cons_succ, i64_w, i32_w]
             rfl
            refine one_ (i := 4) (N := some 44) #[true,true,true,true,true,true,false] rfl rfl (by kernel_rfl) (by decide) (fun K hK => ?_)
            refine goes_ Tryd.func54 (by kernel_rfl) rfl #[.slice A446_0 (rd_L2 t438 x35_2).length c446_0] (by rfl) rfl rfl mM ?_
            with_reducible refine (impl_maskOf.calls k2 _ _ (rd_L2 t438 x35_2) t448 _ ?side1 ?side2 A25.out).mono ?_
            (case side1 => exact cP (by repeat (first | (with_reducible exact HR446_0.out) | (with_reducible refine Kd.C_alloc ?_ _) | (with_reducible refine Kd.C_drewN ?_ _) | (with_reducible refine Kd.C_drew ?_) | exact HR446_0.out)))
            (case side2 => exact HC446_0.out)
            rintro e w' ⟨rfl, ⟨nd, rfl⟩⟩
            refine ⟨_, rfl, ?_⟩
            refine hK.out _ _ ((blk_cell BK435.out 0).trans rfl) (fun hHeld => ?_)
            clear hK K
            refine norm_ (a' := ?_) ?_ ?_
            rotate_left
            ·show Act.put _ (some 44) _ = _
             simp only [Act.put, List.setIfInBounds_toArray, List.set_cons_zero, List.set_cons_succ, i64_w, i32_w]
             rfl
            refine one_ (i := 6) (N := some 46) #[true,true,true,true,true,true,true] rfl rfl (by kernel_rfl) (by decide) (fun K hK => ?_)
            refine goes_ Tryd.func53 (by kernel_rfl) rfl #[.agg #[.slice A0_0 l0_0.length c0_0], .int .i64 t447, .int .i64 t448, .bool a2] (by rfl) rfl rfl mM ?_
            with_reducible refine (impl_net_canMoveGuards.calls k2 _ _ l0_0 t447 t448 a2 false _ ?sideT ?side1 ?side2 A26.out).mono ?_
            (case sideT => exact tabG_below HT.out (by exact bB))
            (case side1 => exact cP (Kd.C_below HR0_0.out (by repeat (first | (with_reducible first | exact HB.out | apply below_alloc | apply pw_below_drewN | apply below_drew1 | refine below_set ?_ GE435.out | refine below_set ?_ GE441.out) | exact HB.out))))
            (case side2 => exact HC0_0.out)
            rintro e w33 ⟨rfl, hb⟩
            refine ⟨_, rfl, ?_⟩
            have n0_ := Aside0.mk (Kd.R_below (by exact rP HO_10.out) hb)
            have n1_ := Aside0.mk (Kd.S_below (by (with_reducible repeat (first | apply Kd.S_alloc | apply Kd.S_drewN | apply Kd.S_drew));exact HO_24.out) hb);have n90_ := Aside0.mk (Kd.R_below (by exact rP HF.out) hb)
            have n2_ := Aside0.mk (Kd.S_below (by (with_reducible repeat (first | apply Kd.S_alloc | apply Kd.S_drewN | apply Kd.S_drew));exact HO_33.out) hb)
            have n3_ := Aside0.mk (Kd.S_below (by (with_reducible repeat (first | apply Kd.S_alloc | apply Kd.S_drewN | apply Kd.S_drew));exact HO_442001.out) hb)
            have n4_ := Aside0.mk (Kd.S_below (by (with_reducible repeat (first | apply Kd.S_alloc | apply Kd.S_drewN | apply Kd.S_drew));exact HO_442002.out) hb)
            have n5_ := Aside0.mk (Kd.R_below (by exact rP HL446_0.out) hb)
            have n6_ := Aside0.mk (blk_below (g := gb435) (o := .cells #[.slice A0_0 l0_0.length c0_0] 62 (0, 0)) (by exact kP BK435.out) hb)
            have n7_ := Aside0.mk (blk_below (g := gb441) (o := .cells #[.int .i64 t436, .slice (some ad442) t438.length co12, u442002] 89 (0, 0)) (by exact kP BK441.out) hb)
            have n8_ := Aside0.mk (Kd.C_below (by repeat (first | (with_reducible exact HR446_0.out) | (with_reducible refine Kd.C_alloc ?_ _) | (with_reducible refine Kd.C_drewN ?_ _) | (with_reducible refine Kd.C_drew ?_) | exact HR446_0.out)) hb)
            have n9_ := Aside0.mk (below_step (by exact bB) hb)
            clear HO_10
            clear HO_24 HF
            clear HO_33
            clear HO_442001
            clear HO_442002
            clear HL446_0
            clear BK435
            clear BK441
            clear HR446_0
            clear HB
            have HO_10 := n0_
            have HO_24 := n1_;have HF := n90_;clear n90_
            have HO_33 := n2_
            have HO_442001 := n3_
            have HO_442002 := n4_
            have HL446_0 := n5_
            have BK435 := n6_
            have BK441 := n7_
            have HR446_0 := n8_
            have HB := n9_
            clear n0_ n1_ n2_ n3_ n4_ n5_ n6_ n7_ n8_ n9_
            (try clear hb)
            (try clear hb2)
            (try clear hk)
            (try clear hi)
            refine hK.out _ _ ((blk_cell BK435.out 0).trans rfl) (fun hHeld => ?_)
            clear hK K
            refine norm_ (a' := ?_) ?_ ?_
            rotate_left
            ·show Act.put _ (some 46) _ = _
             simp only [Act.put, List.setIfInBounds_toArray, List.set_cons_zero, List.set_cons_succ, i64_w, i32_w]
             rfl
            refine done_ (by kernel_rfl) ?_
            try go_wp2
            go_roundg k2
            case measure => have := HK1.out;have := HK2.out;omega
            case rel => exact ⟨(x10_2), (wrap64 (x35_2 + 1)), (by first | rfl | (simp;done) | (simp [*];done)), H', ⟨by have := HK1.out;have := HK2.out;omega⟩, ⟨by exact rP HO_10.out⟩, ⟨by (with_reducible repeat (first | apply Kd.S_alloc | apply Kd.S_drewN | apply Kd.S_drew));exact HO_24.out⟩, ⟨by exact rP HF.out⟩, ⟨by (with_reducible repeat (first | apply Kd.S_alloc | apply Kd.S_drewN | apply Kd.S_drew));exact HO_33.out⟩, ⟨by (with_reducible repeat (first | apply Kd.S_alloc | apply Kd.S_drewN | apply Kd.S_drew));exact HO_442001.out⟩, ⟨by (with_reducible repeat (first | apply Kd.S_alloc | apply Kd.S_drewN | apply Kd.S_drew));exact HO_442002.out⟩, ⟨by exact kP BK435.out⟩, ⟨by exact kP BK441.out⟩, ⟨by exact bB⟩⟩
          ·rw [if_neg c23] at H
           exact absurd H (by simp)
         ·rw [if_neg c22] at H
          exact absurd H (by simp)
        ·rw [if_neg c21] at H
         have c21b0 : decide (x35_2 < (t438.length : Int)) = false := decide_eq_false c21
         clear c21
         by_cases c34 : x442002_1.length < 5864062014805
         ·rw [if_pos c34] at H
          have LMc34 := Aside0.mk c34
          clear c34
          obtain ⟨y443, hy443⟩ : ∃ y_ : List (List Int), y_ = (x442002_1 ++ [x10_2]) := ⟨_, rfl⟩
          replace H : (impl_net_guardGame.l0 k2 a2 t438 (t438.length : Int) (wrap64 (x26_1 + 1)) l0_0 t436 t438 y443) = some (r1, r2, r3) := by first | (rw [hy443];with_reducible exact H) | (have H2_ := (Option.bind_some _ _).symm.trans H;rw [hy443];with_reducible exact H2_) | (have H2_ := (Option.bind_some _ _).symm.trans H;with_reducible exact H2_) | with_reducible exact H | (rw [hy443];exact H) | exact H
          have Ny443 := Aside0.mk hy443
          clear hy443
          have H' := Aside0.mk H
          clear H
          have hnb35 := NB441_435.out
          have hnc35 := NB435_441.out
          have hcz36_0 : wr.cell? ⟨gb441, 0, none⟩ = some (.int .i64 t436) := (blk_cell BK441.out 0).trans rfl
          have hcz36_1 : wr.cell? ⟨gb441, 1, none⟩ = some (.slice (some ad442) t438.length co12) := (blk_cell BK441.out 1).trans rfl
          have hcz36_2 : wr.cell? ⟨gb441, 2, none⟩ = some (u442002) := (blk_cell BK441.out 2).trans rfl
          have hfz36_0 := blk_frozen BK441.out 0
          have hfz36_1 := blk_frozen BK441.out 1
          have hfz36_2 := blk_frozen BK441.out 2
          obtain ⟨Ao38, co38, eo38⟩ := Kd.R_slice HO_10.out
          subst eo38
          go_wp2_with (first | ((with_reducible refine gate_builtin (b := .append) (xs := #[.tmp 56, .tmp 58]) rfl ?_);at_builtin;refine Kd.S_append (Kd.slice 3 (Kd.int .i64)) (w0 := w) w.heap.size rfl (.tmp 56) (.tmp 58) 38 32 (.slice none 0 0) 24 rfl Tryd.underlying38 info32 rfl (by decide) (by omega) u442002 x442002_1 x10_2 [.slice Ao38 x10_2.length co38] (fun k_ => some k_ ≠ (.slice (some ad442) t438.length co12 : Value).ownBlock ∧ some k_ ≠ (.slice (some ad442) t438.length co12 : Value).ownBlock ∧ some k_ ≠ (.slice (some ad442) t438.length co12 : Value).ownBlock) (fun k_ => some k_ = (.slice Ao38 x10_2.length co38 : Value).ownBlock) rfl rfl ?aP (fun k_ hk_ => ((Kd.R_mono (ok' := fun k_ => ((fun k_ => some k_ ≠ (.slice (some ad442) t438.length co12 : Value).ownBlock ∧ some k_ ≠ (.slice (some ad442) t438.length co12 : Value).ownBlock ∧ some k_ ≠ (.slice (some ad442) t438.length co12 : Value).ownBlock)) k_ ∧ some k_ ≠ (u442002 : Value).ownBlock) (Kd.R_apart' (Kd.R_apart' (Kd.R_apart' (Kd.R_apart' (HO_10.out) (Kd.S_typed HO_24.out) (by decide)) (Kd.S_typed HO_33.out) (by decide)) (Kd.S_typed HO_442001.out) (by decide)) (Kd.S_typed HO_442002.out) (by decide)) (fun k_ hk => ⟨⟨hk.1.1.1.2, ⟨hk.1.1.2, hk.1.2⟩⟩, hk.2⟩))).1 k_ hk_.symm) ?aF ?aO ?aB ?aS ?aL ?_;(case aP => exact Kd.M_row (Kd.R_mono (Kd.R_tight rfl (Kd.R_mono (ok' := fun k_ => ((fun k_ => some k_ ≠ (.slice (some ad442) t438.length co12 : Value).ownBlock ∧ some k_ ≠ (.slice (some ad442) t438.length co12 : Value).ownBlock ∧ some k_ ≠ (.slice (some ad442) t438.length co12 : Value).ownBlock)) k_ ∧ some k_ ≠ (u442002 : Value).ownBlock) (Kd.R_apart' (Kd.R_apart' (Kd.R_apart' (Kd.R_apart' (HO_10.out) (Kd.S_typed HO_24.out) (by decide)) (Kd.S_typed HO_33.out) (by decide)) (Kd.S_typed HO_442001.out) (by decide)) (Kd.S_typed HO_442002.out) (by decide)) (fun k_ hk => ⟨⟨hk.1.1.1.2, ⟨hk.1.1.2, hk.1.2⟩⟩, hk.2⟩))) (fun _ h_ => h_)));(case aB => exact (by exact bB));(case aF => exact (fun k_ hk => ⟨Kd.fresh' (Kd.S_lt (by (with_reducible repeat (first | apply Kd.S_alloc | apply Kd.S_drewN | apply Kd.S_drew));exact HO_24.out)) k_ hk, Kd.fresh' (Kd.S_lt (by (with_reducible repeat (first | apply Kd.S_alloc | apply Kd.S_drewN | apply Kd.S_drew));exact HO_33.out)) k_ hk, Kd.fresh' (Kd.S_lt (by (with_reducible repeat (first | apply Kd.S_alloc | apply Kd.S_drewN | apply Kd.S_drew));exact HO_442001.out)) k_ hk⟩));(case aO => exact (by (with_reducible repeat (first | apply Kd.S_alloc | apply Kd.S_drewN | apply Kd.S_drew));exact Kd.S_mono HO_442002.out (fun k_ hk => ⟨⟨hk.2.1, ⟨hk.2.2.1, hk.2.2.2⟩⟩, fun e_ => hk.1 e_⟩)));(case aS => exact (below_size (by exact bB)));(case aL => have := LMc34.out;omega);intro v444 w37 ho hb hg hat;rw [← Ny443.out] at ho;have n0_ := Aside0.mk (Kd.S_after (ok := (fun k_ => some k_ ≠ (.slice Ao38 x10_2.length co38 : Value).ownBlock)) (by (with_reducible repeat (first | apply Kd.S_alloc | apply Kd.S_drewN | apply Kd.S_drew));exact HO_24.out) hg hat);have n1_ := Aside0.mk (Kd.S_after (ok := (fun k_ => some k_ ≠ (.slice Ao38 x10_2.length co38 : Value).ownBlock)) (by (with_reducible repeat (first | apply Kd.S_alloc | apply Kd.S_drewN | apply Kd.S_drew));exact HO_33.out) hg hat);have n2_ := Aside0.mk (Kd.S_after (ok := (fun k_ => some k_ ≠ (.slice Ao38 x10_2.length co38 : Value).ownBlock)) (by (with_reducible repeat (first | apply Kd.S_alloc | apply Kd.S_drewN | apply Kd.S_drew));exact HO_442001.out) hg hat);have n3_ := Aside0.mk (blk_grown (g := gb435) (o := .cells #[.slice A0_0 l0_0.length c0_0] 62 (0, 0)) (by exact kP BK435.out) hg (Kd.S_ne HO_442002.out BK435.out (by decide)));have n4_ := Aside0.mk (blk_grown (g := gb441) (o := .cells #[.int .i64 t436, .slice (some ad442) t438.length co12, u442002] 89 (0, 0)) (by exact kP BK441.out) hg (Kd.S_ne HO_442002.out BK441.out (by decide)));have n5_ := Aside0.mk (hb);have n6_ := Aside0.mk (ho);clear HO_24;clear HO_33;clear HO_442001;clear BK435;clear BK441;clear HB;clear HO_442002;clear HO_10;have HO_24 := n0_;have HO_33 := n1_;have HO_442001 := n2_;have BK435 := n3_;have BK441 := n4_;have HB := n5_;have HO445 := n6_;clear n0_ n1_ n2_ n3_ n4_ n5_ n6_;clear ho hb hg hat;obtain ⟨Ao39, co39, eo39⟩ := Kd.S_slice HO445.out;subst eo39;have hcz40_0 : w37.cell? ⟨gb441, 0, none⟩ = some (.int .i64 t436) := (blk_cell BK441.out 0).trans rfl;have hcz40_1 : w37.cell? ⟨gb441, 1, none⟩ = some (.slice (some ad442) t438.length co12) := (blk_cell BK441.out 1).trans rfl;have hcz40_2 : w37.cell? ⟨gb441, 2, none⟩ = some (u442002) := (blk_cell BK441.out 2).trans rfl;have hfz40_0 := blk_frozen BK441.out 0;have hfz40_1 := blk_frozen BK441.out 1;have hfz40_2 := blk_frozen BK441.out 2))
          go_roundg k2
          case measure => have := HK1.out;have := HK2.out;omega
          case rel => exact ⟨(wrap64 (x26_1 + 1)), (y443), (.slice Ao39 y443.length co39), (by first | rfl | (simp;done) | (simp [*];done)), H', ⟨by have := HK1.out;have := HK2.out;omega⟩, ⟨by (with_reducible repeat (first | apply Kd.S_alloc | apply Kd.S_drewN | apply Kd.S_drew));exact Kd.S_mono (Kd.S_far (p := ⟨gb441, 2, none⟩) (Kd.S_types HO_24.out BK441.out (by decide)) (fun _ hk => hk.2) (.slice Ao39 y443.length co39)) (fun _ hk => hk.1.2)⟩, ⟨by (with_reducible repeat (first | apply Kd.S_alloc | apply Kd.S_drewN | apply Kd.S_drew));exact Kd.S_mono (Kd.S_far (p := ⟨gb441, 2, none⟩) (Kd.S_types HO_442001.out BK441.out (by decide)) (fun _ hk => hk.2) (.slice Ao39 y443.length co39)) (fun _ hk => hk.1.2)⟩, ⟨by (with_reducible repeat (first | apply Kd.S_alloc | apply Kd.S_drewN | apply Kd.S_drew));exact Kd.S_mono (Kd.S_far (p := ⟨gb441, 2, none⟩) (Kd.S_types HO445.out BK441.out (by decide)) (fun _ hk => hk.2) (.slice Ao39 y443.length co39)) (fun _ hk => ⟨hk.1.1, hk.1.2.2⟩)⟩, ⟨by refine kP ?_;refine blk_far ?_ NB435_441.out _;exact kP BK435.out⟩, ⟨by refine kP ?_;refine blk_put (cs := #[.int .i64 t436, .slice (some ad442) t438.length co12, u442002]) ?_ 2 _ rfl;exact kP BK441.out⟩, ⟨by exact bB⟩⟩
         ·rw [if_neg c34] at H
          exact absurd H (by simp)
     ·rw [if_neg c18] at H
      exact absurd H (by simp)
    ·rw [if_neg c17] at H
     exact absurd H (by simp)
   ·rw [if_neg c16] at H
    have c16b0 : decide (x26_1 < (t438.length : Int)) = false := decide_eq_false c16
    clear c16
    simp only [Option.some.injEq, Prod.mk.injEq] at H
    obtain ⟨rfl, rfl, rfl⟩ := H
    go_wp2
    go_ret
    exact ⟨gb441, _, _, rfl, (by exact kP BK441.out), GW441.out, by (with_reducible repeat (first | apply Kd.S_alloc | apply Kd.S_drewN | apply Kd.S_drew));exact HO_442001.out, by (with_reducible repeat (first | apply Kd.S_alloc | apply Kd.S_drewN | apply Kd.S_drew));exact Kd.S_mono HO_442002.out (fun _ hk => hk.2), by exact bB⟩




end Go.Proofs.YthbjajppdomhhaaDoor.QGuardAnswers
