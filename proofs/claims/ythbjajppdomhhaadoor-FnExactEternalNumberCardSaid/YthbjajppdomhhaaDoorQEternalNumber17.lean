import Derived.Test.YthbjajppdomhhaaDoorQEternalNumber0
import Derived.Test.YthbjajppdomhhaaDoorQEternalNumber13
import Derived.Test.YthbjajppdomhhaaDoorQEternalNumber15
import Derived.Test.YthbjajppdomhhaaDoorQEternalNumber16
namespace Go.Proofs.YthbjajppdomhhaaDoor.QEternalNumber
open Go.RowKit Go.Proofs.YthbjajppdomhhaaDoorW.PrintWords Go.Proofs.YthbjajppdomhhaaDoorW.PrintLast Go.Proofs.YthbjajppdomhhaaDoorW.PrintMore
attribute [local go_sem] max2_int min2_int max_two min_two max_three min_three max_four min_four   -- for this text's walks alone
set_option linter.unusedVariables false
set_option linter.unusedSimpArgs false
/-! ### impl_net_guardGame: function 66 -/
mutual
def impl_net_guardGame.l0 : Nat → Bool → List (List Int) → Int → Int → List Int → Int → List (List Int) → List (List Int) → Option (Int × (List (List Int)) × (List (List Int)))
 | 0, _, _, _, _, _, _, _, _ => none
 | k + 1, x2, x24, x25, x26, x566000, x572000, x572001, x572002 => if x26 < x25 then (if 0 ≤ x26 then (if x26 < (x24.length : Int) then (impl_net_guardGame.l1 k x2 (rd_L2 x24 x26) ([] : List Int) x24 x25 x26 x572001 (x572001.length : Int) 0 x566000 x572000 x572001 x572002) else (none)) else (none)) else (some (x572000, x572001, x572002))
def impl_net_guardGame.l1 : Nat → Bool → List Int → List Int → List (List Int) → Int → Int → List (List Int) → Int → Int → List Int → Int → List (List Int) → List (List Int) → Option (Int × (List (List Int)) × (List (List Int)))
 | 0, _, _, _, _, _, _, _, _, _, _, _, _, _ => none
 | k + 1, x2, x9, x10, x24, x25, x26, x33, x34, x35, x566000, x572000, x572001, x572002 => if x35 < x34 then (if 0 ≤ x35 then (if x35 < (x33.length : Int) then ((impl_maskOf.f k x9).bind fun t577 => ((impl_maskOf.f k (rd_L2 x33 x35)).bind fun t578 => ((impl_net_canMoveGuards.f k x566000 t577 t578 x2).bind fun t579 => (if t579 = true then (if x10.length < 17592186044416 then (impl_net_guardGame.l1 k x2 x9 (x10 ++ [x35]) x24 x25 x26 x33 x34 (wrap64 (x35 + 1)) x566000 x572000 x572001 x572002) else (none)) else (impl_net_guardGame.l1 k x2 x9 x10 x24 x25 x26 x33 x34 (wrap64 (x35 + 1)) x566000 x572000 x572001 x572002))))) else (none)) else (none)) else (if x572002.length < 5864062014805 then (impl_net_guardGame.l0 k x2 x24 x25 (wrap64 (x26 + 1)) x566000 x572000 x572001 (x572002 ++ [x10])) else (none))
end
def impl_net_guardGame.f (k : Nat) (l0_0 : List Int) (a1 : Int) (a2 : Bool) : Option (Int × (List (List Int)) × (List (List Int))) := (impl_net_size.f l0_0).bind fun t566 => ((impl_net_size.f l0_0).bind fun t567 => ((impl_guardSets.f k t567 a1).bind fun t568 => (impl_net_guardGame.l0 k a2 t568 (t568.length : Int) 0 l0_0 t566 t568 ([] : List (List Int)))))
theorem impl_net_guardGame.mono_l : ∀ k, (∀ y0 y1 y2 y3 y4 y5 y6 y7, LeO (impl_net_guardGame.l0 k y0 y1 y2 y3 y4 y5 y6 y7) (impl_net_guardGame.l0 (k + 1) y0 y1 y2 y3 y4 y5 y6 y7)) ∧ (∀ y0 y1 y2 y3 y4 y5 y6 y7 y8 y9 y10 y11 y12, LeO (impl_net_guardGame.l1 k y0 y1 y2 y3 y4 y5 y6 y7 y8 y9 y10 y11 y12) (impl_net_guardGame.l1 (k + 1) y0 y1 y2 y3 y4 y5 y6 y7 y8 y9 y10 y11 y12))
 | 0 => ⟨fun _ _ _ _ _ _ _ _ r h => by simp [impl_net_guardGame.l0] at h, fun _ _ _ _ _ _ _ _ _ _ _ _ _ r h => by simp [impl_net_guardGame.l1] at h⟩
 | k + 1 => by
  obtain ⟨ih0, ih1⟩ := impl_net_guardGame.mono_l k
  refine ⟨?_, ?_⟩
  ·intro y0 y1 y2 y3 y4 y5 y6 y7
   unfold impl_net_guardGame.l0
   repeat' first
   | (with_reducible exact ih0 _ _ _ _ _ _ _ _)
   | (with_reducible exact ih1 _ _ _ _ _ _ _ _ _ _ _ _ _)
   | (with_reducible exact impl_guardSets.mono _ _ _)
   | (with_reducible exact impl_maskOf.mono _ _)
   | (with_reducible exact impl_net_canMoveGuards.mono _ _ _ _ _)
   | (with_reducible exact LeO.refl _)
   | (with_reducible exact LeO.none _)
   | (with_reducible refine LeO.ite ?_ ?_)
   | (with_reducible refine LeO.bind ?_ (fun _ => ?_))
   | exact ih0 _ _ _ _ _ _ _ _
   | exact ih1 _ _ _ _ _ _ _ _ _ _ _ _ _
   | exact impl_guardSets.mono _ _ _
   | exact impl_maskOf.mono _ _
   | exact impl_net_canMoveGuards.mono _ _ _ _ _
   | exact LeO.none _
   | refine LeO.ite ?_ ?_
   | refine LeO.bind ?_ (fun _ => ?_)
  ·intro y0 y1 y2 y3 y4 y5 y6 y7 y8 y9 y10 y11 y12
   unfold impl_net_guardGame.l1
   repeat' first
   | (with_reducible exact ih0 _ _ _ _ _ _ _ _)
   | (with_reducible exact ih1 _ _ _ _ _ _ _ _ _ _ _ _ _)
   | (with_reducible exact impl_guardSets.mono _ _ _)
   | (with_reducible exact impl_maskOf.mono _ _)
   | (with_reducible exact impl_net_canMoveGuards.mono _ _ _ _ _)
   | (with_reducible exact LeO.refl _)
   | (with_reducible exact LeO.none _)
   | (with_reducible refine LeO.ite ?_ ?_)
   | (with_reducible refine LeO.bind ?_ (fun _ => ?_))
   | exact ih0 _ _ _ _ _ _ _ _
   | exact ih1 _ _ _ _ _ _ _ _ _ _ _ _ _
   | exact impl_guardSets.mono _ _ _
   | exact impl_maskOf.mono _ _
   | exact impl_net_canMoveGuards.mono _ _ _ _ _
   | exact LeO.none _
   | refine LeO.ite ?_ ?_
   | refine LeO.bind ?_ (fun _ => ?_)
theorem impl_net_guardGame.mono : ∀ a0 a1 a2 k, LeO (impl_net_guardGame.f k a0 a1 a2) (impl_net_guardGame.f (k + 1) a0 a1 a2) := by
 intro a0 a1 a2 k
 obtain ⟨ih0, ih1⟩ := impl_net_guardGame.mono_l k
 unfold impl_net_guardGame.f
 repeat' first
   | (with_reducible exact ih0 _ _ _ _ _ _ _ _)
   | (with_reducible exact ih1 _ _ _ _ _ _ _ _ _ _ _ _ _)
   | (with_reducible exact impl_guardSets.mono _ _ _)
   | (with_reducible exact impl_maskOf.mono _ _)
   | (with_reducible exact impl_net_canMoveGuards.mono _ _ _ _ _)
   | (with_reducible exact LeO.refl _)
   | (with_reducible exact LeO.none _)
   | (with_reducible refine LeO.ite ?_ ?_)
   | (with_reducible refine LeO.bind ?_ (fun _ => ?_))
   | exact ih0 _ _ _ _ _ _ _ _
   | exact ih1 _ _ _ _ _ _ _ _ _ _ _ _ _
   | exact impl_guardSets.mono _ _ _
   | exact impl_maskOf.mono _ _
   | exact impl_net_canMoveGuards.mono _ _ _ _ _
   | exact LeO.none _
   | refine LeO.ite ?_ ?_
   | refine LeO.bind ?_ (fun _ => ?_)
def impl_net_guardGame.T1 : Bool × List (List Nat × List Nat) := (true, [([], []), ([0], [0]), ([], []), ([2, 1], [2]), ([], []), ([3, 4, 3], [3, 4]), ([1, 5], [1, 5]), ([6], [6]), ([7, 5, 0, 1, 2, 3, 4, 5, 6, 7], [7])])
def impl_net_guardGame.B1 : List Nat := [0, 1, 0, 7, 0, 31, 63, 127, 255]
theorem impl_net_guardGame.tab1 : rtab .any (opsOf Tryd.f66 1) = impl_net_guardGame.T1 := by kernel_rfl
theorem impl_net_guardGame.bits1 : waitsOk impl_net_guardGame.T1.2 impl_net_guardGame.B1 = true := by kernel_rfl
set_option maxHeartbeats 8000000 in
set_option maxRecDepth 100000 in
theorem impl_net_guardGame.calls (k : Nat) (A0_0 : Option Addr) (c0_0 : Nat) (l0_0 : List Int) (a1 : Int) (a2 : Bool) (r1 : Int) (r2 : List (List Int)) (r3 : List (List Int)) (w : World) (hT : TabG w) (hr0_0 : Kd.C (Kd.int .i64) w A0_0 l0_0.length l0_0) (hc0_0 : l0_0.length ≤ c0_0) (h : impl_net_guardGame.f k l0_0 a1 a2 = some (r1, r2, r3)) :
  Calls Tryd.prog 66 #[.agg #[.slice A0_0 l0_0.length c0_0], .int .i64 a1, .bool a2] w fun e w' => ∃ (g : Nat) (v1_ v2_ : Value), e = .returned (.pointer (some ⟨g, 0, none⟩)) ∧ w'.heap[g]? = some (.cells #[.int .i64 r1, v1_, v2_] 89 (0, 0)) ∧ w.heap.size ≤ g ∧ Kd.S (Kd.slice 3 (Kd.int .i64)) 32 w' w.heap.size (fun k_ => some k_ ≠ (v2_ : Value).ownBlock) v1_ r2 ∧ Kd.S (Kd.slice 3 (Kd.int .i64)) 32 w' w.heap.size (fun k_ => some k_ ≠ (v1_ : Value).ownBlock) v2_ r3 ∧ Below w.heap.size w w' := by
 have hu62 := Tryd.underlying62
 have hu89 := Tryd.underlying89
 have HR0_0 := Aside0.mk hr0_0
 have HC0_0 := Aside0.mk hc0_0
 clear hr0_0 hc0_0
 have HB := Aside0.mk (Below.refl w.heap.size w)
 have HT := Aside0.mk hT
 clear hT
 have H : ((impl_net_size.f l0_0).bind fun t566 => ((impl_net_size.f l0_0).bind fun t567 => ((impl_guardSets.f k t567 a1).bind fun t568 => (impl_net_guardGame.l0 k a2 t568 (t568.length : Int) 0 l0_0 t566 t568 ([] : List (List Int)))))) = some (r1, r2, r3) := h
 clear h
 replace H := Option.bind_eq_some_iff.mp H
 obtain ⟨t566, A40, H⟩ := H
 replace H : ((impl_net_size.f l0_0).bind fun t567 => ((impl_guardSets.f k t567 a1).bind fun t568 => (impl_net_guardGame.l0 k a2 t568 (t568.length : Int) 0 l0_0 t566 t568 ([] : List (List Int))))) = some (r1, r2, r3) := H
 have A4 := Aside0.mk A40
 clear A40
 replace H := Option.bind_eq_some_iff.mp H
 obtain ⟨t567, A50, H⟩ := H
 replace H : ((impl_guardSets.f k t567 a1).bind fun t568 => (impl_net_guardGame.l0 k a2 t568 (t568.length : Int) 0 l0_0 t566 t568 ([] : List (List Int)))) = some (r1, r2, r3) := H
 have A5 := Aside0.mk A50
 clear A50
 replace H := Option.bind_eq_some_iff.mp H
 obtain ⟨t568, A60, H⟩ := H
 replace H : (impl_net_guardGame.l0 k a2 t568 (t568.length : Int) 0 l0_0 t566 t568 ([] : List (List Int))) = some (r1, r2, r3) := H
 have A6 := Aside0.mk A60
 clear A60
 have H' := Aside0.mk H
 clear H
 go_enter Tryd.func66, Tryd.ntmps66
 try go_wp2_with (first | ((with_reducible refine gate_dst (N := 3) rfl ?_);refine box_event ?hg (N := 3) ?hd (cs := #[.slice A0_0 l0_0.length c0_0]) (t := 62) ?hr ?_;(case hd => rfl);(case hg => rfl);(case hr => first | (go_simp;done) | (go_simp;rfl));intro gb565 hg w7 hbox hb;have n0_ := Aside0.mk (below_step (by exact bB) hb);have n1_ := Aside0.mk (hbox);have n2_ := Aside0.mk ((by rw [hg];exact (below_size (by exact bB)) : w.heap.size ≤ gb565));have n3_ := Aside0.mk ((by rw [hg];exact (below_size (by exact bB)) : w.heap.size ≤ gb565));clear HB;have HB := n0_;have BK565 := n1_;have GW565 := n2_;have GE565 := n3_;clear n0_ n1_ n2_ n3_;clear hb hbox hg))
 have n0_ := Aside0.mk (blk_drew BK565.out)
 have n1_ := Aside0.mk (below_drew1 HB.out)
 clear BK565
 clear HB
 have BK565 := n0_
 have HB := n1_
 clear n0_ n1_
 refine start_ (n := 9) (S := fun w' => w'.cell? ⟨gb565, 0, none⟩ = some (.slice A0_0 l0_0.length c0_0)) (ds := []) #[false,false,false,false,false,false,false,false,false] (by kernel_rfl) rfl rfl ((blk_cell BK565.out 0).trans rfl) (fun hHeld => ?_);refine with_tabW impl_net_guardGame.tab1 impl_net_guardGame.bits1 (fun HT_ HW_ => ?_)
 generalize w7.drew = w8 at BK565 HB hHeld ⊢
 refine pure_ (i := 4) (N := some 17) (v := ?_) (a' := ?_) #[false,false,false,false,true,false,false,false,false] rfl rfl (any_of HT_.out (by kernel_rfl)) (fun _ _ _ h => h) (Or.inl ⟨by rfl, ?_⟩) ?_ ?_
 rotate_left
 ·intro w'
  go_simp
  with_reducible rfl
 rotate_left
 ·simp only [Act.put, List.setIfInBounds_toArray, List.set_cons_zero, List.set_cons_succ, i64_w, i32_w]
  rfl
 refine take_ (i := 0) (N := some 13) (v := ?_) (a' := ?_) #[true,false,false,false,true,false,false,false,false] rfl rfl (take_ofW HT_.out HW_.out (by kernel_rfl)) (fun _ _ _ h => h) (Or.inl ⟨by rfl, ?_⟩) hHeld ?_ ?_
 rotate_left
 ·intro w' s0
  go_simp
  with_reducible rfl
 rotate_left
 ·simp only [Act.put, List.setIfInBounds_toArray, List.set_cons_zero, List.set_cons_succ, i64_w, i32_w]
  rfl
 refine take_ (i := 2) (N := some 15) (v := ?_) (a' := ?_) #[true,false,true,false,true,false,false,false,false] rfl rfl (take_ofW HT_.out HW_.out (by kernel_rfl)) (fun _ _ _ h => h) (Or.inl ⟨by rfl, ?_⟩) hHeld ?_ ?_
 rotate_left
 ·intro w' s0
  go_simp
  with_reducible rfl
 rotate_left
 ·simp only [Act.put, List.setIfInBounds_toArray, List.set_cons_zero, List.set_cons_succ, i64_w, i32_w]
  rfl
 refine one_ (i := 1) (N := some 14) #[true,true,true,false,true,false,false,false,false] rfl rfl (one_of HT_.out (by kernel_rfl)) (by decide) (fun K hK => ?_)
 refine goes_ Tryd.func103 (by kernel_rfl) rfl #[.agg #[.slice A0_0 l0_0.length c0_0]] (by rfl) rfl rfl mM ?_
 with_reducible refine (impl_net_size.calls _ _ l0_0 t566 _ ?side1 ?side2 A4.out).mono ?_
 (case side1 => exact cP (Kd.C_below HR0_0.out HB.out))
 (case side2 => exact HC0_0.out)
 rintro e w9 ⟨rfl, hb⟩
 refine ⟨_, rfl, ?_⟩
 have n0_ := Aside0.mk (blk_below (g := gb565) (o := .cells #[.slice A0_0 l0_0.length c0_0] 62 (0, 0)) (by exact kP BK565.out) hb)
 have n1_ := Aside0.mk (below_step (by exact bB) hb)
 clear BK565
 clear HB
 have BK565 := n0_
 have HB := n1_
 clear n0_ n1_
 (try clear hb)
 (try clear hb2)
 (try clear hk)
 (try clear hi)
 refine hK.out _ _ ((blk_cell BK565.out 0).trans rfl) (fun hHeld => ?_)
 clear hK K
 refine norm_ (a' := ?_) ?_ ?_
 rotate_left
 ·show Act.put _ (some 14) _ = _
  simp only [Act.put, List.setIfInBounds_toArray, List.set_cons_zero, List.set_cons_succ, i64_w, i32_w]
  rfl
 refine one_ (i := 3) (N := some 16) #[true,true,true,true,true,false,false,false,false] rfl rfl (one_of HT_.out (by kernel_rfl)) (by decide) (fun K hK => ?_)
 refine goes_ Tryd.func103 (by kernel_rfl) rfl #[.agg #[.slice A0_0 l0_0.length c0_0]] (by rfl) rfl rfl mM ?_
 with_reducible refine (impl_net_size.calls _ _ l0_0 t567 _ ?side1 ?side2 A5.out).mono ?_
 (case side1 => exact cP (Kd.C_below HR0_0.out HB.out))
 (case side2 => exact HC0_0.out)
 rintro e w10 ⟨rfl, hb⟩
 refine ⟨_, rfl, ?_⟩
 have n0_ := Aside0.mk (blk_below (g := gb565) (o := .cells #[.slice A0_0 l0_0.length c0_0] 62 (0, 0)) (by exact kP BK565.out) hb)
 have n1_ := Aside0.mk (below_step (by exact bB) hb)
 clear BK565
 clear HB
 have BK565 := n0_
 have HB := n1_
 clear n0_ n1_
 (try clear hb)
 (try clear hb2)
 (try clear hk)
 (try clear hi)
 refine hK.out _ _ ((blk_cell BK565.out 0).trans rfl) (fun hHeld => ?_)
 clear hK K
 refine norm_ (a' := ?_) ?_ ?_
 rotate_left
 ·show Act.put _ (some 16) _ = _
  simp only [Act.put, List.setIfInBounds_toArray, List.set_cons_zero, List.set_cons_succ, i64_w, i32_w]
  rfl
 refine one_ (i := 5) (N := some 18) #[true,true,true,true,true,true,false,false,false] rfl rfl (one_of HT_.out (by kernel_rfl)) (by decide) (fun K hK => ?_)
 refine goes_ Tryd.func108 (by kernel_rfl) rfl #[.int .i64 t567, .int .i64 a1] (by rfl) rfl rfl mM ?_
 with_reducible refine (impl_guardSets.calls k t567 a1 t568 _ A6.out).mono ?_
 rintro e w11 ⟨v569, rfl, ho0, hb⟩
 refine ⟨_, rfl, ?_⟩
 have n0_ := Aside0.mk (Kd.S_lower ho0 (below_size (by exact bB)))
 have n1_ := Aside0.mk (blk_below (g := gb565) (o := .cells #[.slice A0_0 l0_0.length c0_0] 62 (0, 0)) (by exact kP BK565.out) hb)
 have n2_ := Aside0.mk (below_step (by exact bB) hb)
 clear BK565
 clear HB
 have HO570 := n0_
 have BK565 := n1_
 have HB := n2_
 clear n0_ n1_ n2_
 (try clear hb)
 (try clear hb2)
 (try clear hk)
 (try clear hi)
 (try clear ho0)
 obtain ⟨Ao12, co12, eo12⟩ := Kd.S_slice HO570.out
 (first | subst eo12 | (injection eo12 with f1_ f2_ f3_;have f4_ := f1_.symm;have f5_ := f3_.symm;clear f1_ f2_ f3_;subst f4_;subst f5_))
 refine hK.out _ _ ((blk_cell BK565.out 0).trans rfl) (fun hHeld => ?_)
 clear hK K
 refine norm_ (a' := ?_) ?_ ?_
 rotate_left
 ·show Act.put _ (some 18) _ = _
  simp only [Act.put, List.setIfInBounds_toArray, List.set_cons_zero, List.set_cons_succ, i64_w, i32_w]
  rfl
 refine pure_ (i := 6) (N := some 19) (v := ?_) (a' := ?_) #[true,true,true,true,true,true,true,false,false] rfl rfl (any_of HT_.out (by kernel_rfl)) (fun _ _ _ h => h) (Or.inl ⟨by rfl, ?_⟩) ?_ ?_
 rotate_left
 ·intro w'
  go_simp
  with_reducible rfl
 rotate_left
 ·simp only [Act.put, List.setIfInBounds_toArray, List.set_cons_zero, List.set_cons_succ, i64_w, i32_w]
  rfl
 refine one_ (i := 7) (N := some 20) #[true,true,true,true,true,true,true,true,false] rfl rfl (one_of HT_.out (by kernel_rfl)) (by decide) (fun K hK => ?_)
 refine box_step ?hg (N := 20) ?hd (cs := #[.int .i64 t566, .slice Ao12 t568.length co12, .slice none 0 0]) (t := 89) ?hr ?_;(case hd => rfl);(case hg => rfl);(case hr => first | (go_simp;done) | (go_simp;rfl))
 intro gb571 hg w13 hbox hb
 have n0_ := Aside0.mk (Kd.S_below (by (with_reducible repeat (first | apply Kd.S_alloc | apply Kd.S_drewN | apply Kd.S_drew));exact HO570.out) hb)
 have n1_ := Aside0.mk (blk_below (g := gb565) (o := .cells #[.slice A0_0 l0_0.length c0_0] 62 (0, 0)) (by exact kP BK565.out) hb)
 have n2_ := Aside0.mk (below_step (by exact bB) hb)
 have n3_ := Aside0.mk (hbox)
 have n4_ := Aside0.mk ((by rw [hg];exact (below_size (by exact bB)) : w.heap.size ≤ gb571))
 have n5_ := Aside0.mk ((by rw [hg];exact (below_size (by exact bB)) : w.heap.size ≤ gb571))
 have n6_ := Aside0.mk ((by rw [hg];exact Nat.ne_of_lt (blk_lt (g := gb565) (o := .cells #[.slice A0_0 l0_0.length c0_0] 62 (0, 0)) (by exact kP BK565.out)) : gb565 ≠ gb571))
 have n7_ := Aside0.mk ((by rw [hg];exact Nat.ne_of_gt (blk_lt (g := gb565) (o := .cells #[.slice A0_0 l0_0.length c0_0] 62 (0, 0)) (by exact kP BK565.out)) : gb571 ≠ gb565))
 clear HO570
 clear BK565
 clear HB
 have HO570 := n0_
 have BK565 := n1_
 have HB := n2_
 have BK571 := n3_
 have GW571 := n4_
 have GE571 := n5_
 have NB565_571 := n6_
 have NB571_565 := n7_
 clear n0_ n1_ n2_ n3_ n4_ n5_ n6_ n7_
 clear hb hbox hg
 refine hK.out _ _ ((blk_cell BK565.out 0).trans rfl) (fun hHeld => ?_)
 clear hK K
 refine norm_ (a' := ?_) ?_ ?_
 rotate_left
 ·show Act.put _ (some 20) _ = _
  simp only [Act.put, List.setIfInBounds_toArray, List.set_cons_zero, List.set_cons_succ, i64_w, i32_w]
  rfl
 refine pure_ (i := 8) (N := some 7) (v := ?_) (a' := ?_) #[true,true,true,true,true,true,true,true,true] rfl rfl (any_of HT_.out (by kernel_rfl)) (fun _ _ _ h => h) (Or.inl ⟨by rfl, ?_⟩) ?_ ?_
 rotate_left
 ·intro w'
  go_simp
  with_reducible rfl
 rotate_left
 ·simp only [Act.put, List.setIfInBounds_toArray, List.set_cons_zero, List.set_cons_succ, i64_w, i32_w]
  rfl
 refine done_ (done_of HT_.out (by kernel_rfl)) ?_
 have hnb14 := NB571_565.out
 have hnc14 := NB565_571.out
 have hcz15_0 : w13.cell? ⟨gb571, 0, none⟩ = some (.int .i64 t566) := (blk_cell BK571.out 0).trans rfl
 have hcz15_1 : w13.cell? ⟨gb571, 1, none⟩ = some (.slice Ao12 t568.length co12) := (blk_cell BK571.out 1).trans rfl
 have hcz15_2 : w13.cell? ⟨gb571, 2, none⟩ = some (.slice none 0 0) := (blk_cell BK571.out 2).trans rfl
 have hfz15_0 := blk_frozen BK571.out 0
 have hfz15_1 := blk_frozen BK571.out 1
 have hfz15_2 := blk_frozen BK571.out 2
 try go_wp2
 go_loopg [26] k (fun kq v26 w' => ∃ (x26_1 : Int) (x572002_1 : List (List Int)) (u572002 : Value), v26 = .int .i64 x26_1 ∧ Aside0 (impl_net_guardGame.l0 kq a2 t568 (t568.length : Int) x26_1 l0_0 t566 t568 x572002_1 = some (r1, r2, r3)) ∧ Aside0 (kq ≤ k) ∧ Aside0 (Kd.S (Kd.slice 3 (Kd.int .i64)) 32 w' w.heap.size (fun k_ => some k_ ≠ (u572002 : Value).ownBlock) (.slice Ao12 t568.length co12) t568) ∧ Aside0 (Kd.S (Kd.slice 3 (Kd.int .i64)) 32 w' w.heap.size (fun k_ => some k_ ≠ (u572002 : Value).ownBlock) (.slice Ao12 t568.length co12) t568) ∧ Aside0 (Kd.S (Kd.slice 3 (Kd.int .i64)) 32 w' w.heap.size (fun k_ => some k_ ≠ ((.slice Ao12 t568.length co12) : Value).ownBlock ∧ some k_ ≠ ((.slice Ao12 t568.length co12) : Value).ownBlock) u572002 x572002_1) ∧ Aside0 (w'.heap[gb565]? = some (.cells #[(.slice A0_0 l0_0.length c0_0)] 62 (0, 0))) ∧ Aside0 (w'.heap[gb571]? = some (.cells #[.int .i64 t566, (.slice Ao12 t568.length co12), u572002] 89 (0, 0))) ∧ Aside0 (Below w.heap.size w w'))
 case atStart => exact ⟨(0), (([] : List (List Int))), (.slice none 0 0), (by first | rfl | (simp;done) | (simp [*];done)), H', ⟨Nat.le_refl _⟩, ⟨by (with_reducible repeat (first | apply Kd.S_alloc | apply Kd.S_drewN | apply Kd.S_drew));exact Kd.S_mono HO570.out (fun _ hk => (by simp [Value.ownBlock]))⟩, ⟨by (with_reducible repeat (first | apply Kd.S_alloc | apply Kd.S_drewN | apply Kd.S_drew));exact Kd.S_mono HO570.out (fun _ hk => (by simp [Value.ownBlock]))⟩, ⟨by first | exact Kd.S_nil _ _ _ _ _ | exact Kd.N_nil _ _ _ _ _ | exact Kd.V_nil _ _ _ _ _ | exact Kd.Q_nil _ _ _ _ _ | exact Kd.R_nil _ _ _ _ _⟩, ⟨by exact kP BK565.out⟩, ⟨by exact kP BK571.out⟩, ⟨by exact bB⟩⟩
 case round =>
  clear H'
  try clear c1
  try clear p2
  try clear c6
  try clear c10
  try clear c14
  try clear hcz15_0
  try clear hcz15_1
  try clear hcz15_2
  try clear hfz15_0
  try clear hfz15_1
  try clear hfz15_2
  obtain ⟨x26_1, x572002_1, u572002, rfl, HA, HK1, HO_24, HO_572001, HO_572002, BK565, BK571, HB⟩ := hrel
  cases gk with
  | zero => exact absurd HA.out (by simp [impl_net_guardGame.l0])
  | succ k1 =>
   have H := HA.out
   clear HA
   simp only [impl_net_guardGame.l0] at H
   by_cases c16 : x26_1 < (t568.length : Int)
   ·rw [if_pos c16] at H
    have c16b0 : decide (x26_1 < (t568.length : Int)) = true := decide_eq_true c16
    clear c16
    by_cases c17 : 0 ≤ x26_1
    ·rw [if_pos c17] at H
     have c17b0 : decide (0 ≤ x26_1) = true := decide_eq_true c17
     clear c17
     by_cases c18 : x26_1 < (t568.length : Int)
     ·rw [if_pos c18] at H
      have c18b0 : decide (x26_1 < (t568.length : Int)) = true := decide_eq_true c18
      clear c18
      have H' := Aside0.mk H
      clear H
      have p572 : 0 ≤ (x26_1 : Int) := oA
      have q572 : x26_1 < (t568.length : Int) := oA
      obtain ⟨ad572, A572_0, c572_0, e572, hx572_0, hl572_0, hi572_0⟩ := at_L2 (Kd.S_reads' HO_24.out).2.2 x26_1 p572 q572
      cases e572
      obtain ⟨ce572, hce572, hMe572, hcc572⟩ := Kd.S_get HO_24.out [] x26_1 p572 (by first | exact q572 | exact oA | (have e_ := (Kd.S_reads' HO_24.out).1;omega))
      obtain ⟨ve572_0, rfl, ge572_0⟩ := hMe572
      have hv572_0 := hcc572 0 _ rfl
      rw [Nat.add_zero, show ((Kd.slice 3 (Kd.int .i64))).sz = 1 from rfl, Nat.mul_one] at hv572_0
      replace hv572_0 := Option.some.inj (hv572_0.symm.trans hx572_0)
      rw [hv572_0] at ge572_0
      have HL572_0 := Aside0.mk (show Kd.R (Kd.int .i64) 3 _ _ _ _ (rd_L2 t568 x26_1) from ge572_0)
      clear hv572_0 ge572_0
      clear hcc572 hce572
      have HR572_0 := Aside0.mk hi572_0
      have HC572_0 := Aside0.mk hl572_0
      clear hi572_0 hl572_0
      replace p572 := eq_true p572
      replace q572 := eq_true q572
      have hnb19 := NB571_565.out
      have hnc19 := NB565_571.out
      have hcz20_0 : wr.cell? ⟨gb571, 0, none⟩ = some (.int .i64 t566) := (blk_cell BK571.out 0).trans rfl
      have hcz20_1 : wr.cell? ⟨gb571, 1, none⟩ = some (.slice (some ad572) t568.length co12) := (blk_cell BK571.out 1).trans rfl
      have hcz20_2 : wr.cell? ⟨gb571, 2, none⟩ = some (u572002) := (blk_cell BK571.out 2).trans rfl
      have hfz20_0 := blk_frozen BK571.out 0
      have hfz20_1 := blk_frozen BK571.out 1
      have hfz20_2 := blk_frozen BK571.out 2
      go_wp2
      have HF := Aside0.mk (Kd.R_mono (ok' := fun k_ => some k_ ≠ (u572002 : Value).ownBlock) HL572_0.out (fun _ hk => hk.1))
      go_loopg [10, 35] k1 (fun kq v10 v35 w' => ∃ (x10_2 : List Int) (x35_2 : Int), v35 = .int .i64 x35_2 ∧ Aside0 (impl_net_guardGame.l1 kq a2 (rd_L2 t568 x26_1) x10_2 t568 (t568.length : Int) x26_1 t568 (t568.length : Int) x35_2 l0_0 t566 t568 x572002_1 = some (r1, r2, r3)) ∧ Aside0 (kq ≤ k1) ∧ Aside0 (Kd.R (Kd.int .i64) 3 w' w.heap.size (fun _ => True) v10 x10_2) ∧ Aside0 (Kd.S (Kd.slice 3 (Kd.int .i64)) 32 w' w.heap.size (fun k_ => some k_ ≠ (v10 : Value).ownBlock ∧ some k_ ≠ (u572002 : Value).ownBlock) (.slice (some ad572) t568.length co12) t568) ∧ Aside0 (Kd.R (Kd.int .i64) 3 w' w.heap.size (fun k_ => some k_ ≠ (v10 : Value).ownBlock ∧ some k_ ≠ (u572002 : Value).ownBlock) (.slice A572_0 (rd_L2 t568 x26_1).length c572_0) (rd_L2 t568 x26_1)) ∧ Aside0 (Kd.S (Kd.slice 3 (Kd.int .i64)) 32 w' w.heap.size (fun k_ => some k_ ≠ (v10 : Value).ownBlock ∧ some k_ ≠ (u572002 : Value).ownBlock) (.slice (some ad572) t568.length co12) t568) ∧ Aside0 (Kd.S (Kd.slice 3 (Kd.int .i64)) 32 w' w.heap.size (fun k_ => some k_ ≠ (v10 : Value).ownBlock ∧ some k_ ≠ (u572002 : Value).ownBlock) (.slice (some ad572) t568.length co12) t568) ∧ Aside0 (Kd.S (Kd.slice 3 (Kd.int .i64)) 32 w' w.heap.size (fun k_ => some k_ ≠ (v10 : Value).ownBlock ∧ some k_ ≠ ((.slice (some ad572) t568.length co12) : Value).ownBlock ∧ some k_ ≠ ((.slice (some ad572) t568.length co12) : Value).ownBlock ∧ some k_ ≠ ((.slice (some ad572) t568.length co12) : Value).ownBlock) u572002 x572002_1) ∧ Aside0 (w'.heap[gb565]? = some (.cells #[(.slice A0_0 l0_0.length c0_0)] 62 (0, 0))) ∧ Aside0 (w'.heap[gb571]? = some (.cells #[.int .i64 t566, (.slice (some ad572) t568.length co12), u572002] 89 (0, 0))) ∧ Aside0 (Below w.heap.size w w'))
      case atStart => exact ⟨(([] : List Int)), (0), (by first | rfl | (simp;done) | (simp [*];done)), H', ⟨Nat.le_refl _⟩, ⟨by first | exact Kd.R_nil _ _ _ _ _ | exact Kd.N_nil _ _ _ _ _ | exact Kd.V_nil _ _ _ _ _ | exact Kd.Q_nil _ _ _ _ _ | exact Kd.S_nil _ _ _ _ _⟩, ⟨by (with_reducible repeat (first | apply Kd.S_alloc | apply Kd.S_drewN | apply Kd.S_drew));exact Kd.S_mono HO_24.out (fun _ hk => ⟨(by simp [Value.ownBlock]), hk⟩)⟩, ⟨by refine rP ?_;exact Kd.R_mono HF.out (fun _ hk => ⟨(by simp [Value.ownBlock]), hk⟩)⟩, ⟨by (with_reducible repeat (first | apply Kd.S_alloc | apply Kd.S_drewN | apply Kd.S_drew));exact Kd.S_mono HO_572001.out (fun _ hk => ⟨(by simp [Value.ownBlock]), hk⟩)⟩, ⟨by (with_reducible repeat (first | apply Kd.S_alloc | apply Kd.S_drewN | apply Kd.S_drew));exact Kd.S_mono HO_572001.out (fun _ hk => ⟨(by simp [Value.ownBlock]), hk⟩)⟩, ⟨by (with_reducible repeat (first | apply Kd.S_alloc | apply Kd.S_drewN | apply Kd.S_drew));exact Kd.S_mono HO_572002.out (fun _ hk => ⟨(by simp [Value.ownBlock]), ⟨hk.1, ⟨hk.2, hk.2⟩⟩⟩)⟩, ⟨by exact kP BK565.out⟩, ⟨by exact kP BK571.out⟩, ⟨by exact bB⟩⟩
      case round =>
       clear H'
       try clear c1
       try clear p2
       try clear c5
       try clear p5
       try clear q5
       try clear hx5
       try clear c6
       try clear c10
       try clear c14
       try clear c16
       try clear c16b0
       try clear c17
       try clear c17b0
       try clear c18
       try clear c18b0
       try clear c19
       try clear hcz15_0
       try clear hcz15_1
       try clear hcz15_2
       try clear hcz20_0
       try clear hcz20_1
       try clear hcz20_2
       try clear hfz15_0
       try clear hfz15_1
       try clear hfz15_2
       try clear hfz20_0
       try clear hfz20_1
       try clear hfz20_2
       try clear hx572_0
       try clear p2
       try clear p572
       try clear q572
       obtain ⟨x10_2, x35_2, rfl, HA, HK2, HO_10, HO_24, HF, HO_33, HO_572001, HO_572002, BK565, BK571, HB⟩ := hrel
       cases gk with
       | zero => exact absurd HA.out (by simp [impl_net_guardGame.l1])
       | succ k2 =>
        have H := HA.out
        clear HA
        simp only [impl_net_guardGame.l1] at H
        by_cases c21 : x35_2 < (t568.length : Int)
        ·rw [if_pos c21] at H
         have c21b0 : decide (x35_2 < (t568.length : Int)) = true := decide_eq_true c21
         clear c21
         by_cases c22 : 0 ≤ x35_2
         ·rw [if_pos c22] at H
          have c22b0 : decide (0 ≤ x35_2) = true := decide_eq_true c22
          clear c22
          by_cases c23 : x35_2 < (t568.length : Int)
          ·rw [if_pos c23] at H
           have c23b0 : decide (x35_2 < (t568.length : Int)) = true := decide_eq_true c23
           clear c23
           replace H := Option.bind_eq_some_iff.mp H
           obtain ⟨t577, A240, H⟩ := H
           replace H : ((impl_maskOf.f k2 (rd_L2 t568 x35_2)).bind fun t578 => ((impl_net_canMoveGuards.f k2 l0_0 t577 t578 a2).bind fun t579 => (if t579 = true then (if x10_2.length < 17592186044416 then (impl_net_guardGame.l1 k2 a2 (rd_L2 t568 x26_1) (x10_2 ++ [x35_2]) t568 (t568.length : Int) x26_1 t568 (t568.length : Int) (wrap64 (x35_2 + 1)) l0_0 t566 t568 x572002_1) else (none)) else (impl_net_guardGame.l1 k2 a2 (rd_L2 t568 x26_1) x10_2 t568 (t568.length : Int) x26_1 t568 (t568.length : Int) (wrap64 (x35_2 + 1)) l0_0 t566 t568 x572002_1)))) = some (r1, r2, r3) := H
           have A24 := Aside0.mk A240
           clear A240
           replace H := Option.bind_eq_some_iff.mp H
           obtain ⟨t578, A250, H⟩ := H
           replace H : ((impl_net_canMoveGuards.f k2 l0_0 t577 t578 a2).bind fun t579 => (if t579 = true then (if x10_2.length < 17592186044416 then (impl_net_guardGame.l1 k2 a2 (rd_L2 t568 x26_1) (x10_2 ++ [x35_2]) t568 (t568.length : Int) x26_1 t568 (t568.length : Int) (wrap64 (x35_2 + 1)) l0_0 t566 t568 x572002_1) else (none)) else (impl_net_guardGame.l1 k2 a2 (rd_L2 t568 x26_1) x10_2 t568 (t568.length : Int) x26_1 t568 (t568.length : Int) (wrap64 (x35_2 + 1)) l0_0 t566 t568 x572002_1))) = some (r1, r2, r3) := H
           have A25 := Aside0.mk A250
           clear A250
           replace H := Option.bind_eq_some_iff.mp H
           obtain ⟨t579, A260, H⟩ := H
           replace H : (if t579 = true then (if x10_2.length < 17592186044416 then (impl_net_guardGame.l1 k2 a2 (rd_L2 t568 x26_1) (x10_2 ++ [x35_2]) t568 (t568.length : Int) x26_1 t568 (t568.length : Int) (wrap64 (x35_2 + 1)) l0_0 t566 t568 x572002_1) else (none)) else (impl_net_guardGame.l1 k2 a2 (rd_L2 t568 x26_1) x10_2 t568 (t568.length : Int) x26_1 t568 (t568.length : Int) (wrap64 (x35_2 + 1)) l0_0 t566 t568 x572002_1)) = some (r1, r2, r3) := H
           have A26 := Aside0.mk A260
           clear A260
           by_cases c27 : t579 = true
           ·subst c27
            have H1 : (if x10_2.length < 17592186044416 then (impl_net_guardGame.l1 k2 a2 (rd_L2 t568 x26_1) (x10_2 ++ [x35_2]) t568 (t568.length : Int) x26_1 t568 (t568.length : Int) (wrap64 (x35_2 + 1)) l0_0 t566 t568 x572002_1) else (none)) = some (r1, r2, r3) := by rw [if_pos rfl] at H;exact H
            clear H
            have H := H1
            clear H1
            by_cases c28 : x10_2.length < 17592186044416
            ·rw [if_pos c28] at H
             have LMc28 := Aside0.mk c28
             clear c28
             obtain ⟨y580, hy580⟩ : ∃ y_ : List Int, y_ = (x10_2 ++ [x35_2]) := ⟨_, rfl⟩
             replace H : (impl_net_guardGame.l1 k2 a2 (rd_L2 t568 x26_1) y580 t568 (t568.length : Int) x26_1 t568 (t568.length : Int) (wrap64 (x35_2 + 1)) l0_0 t566 t568 x572002_1) = some (r1, r2, r3) := by first | (rw [hy580];with_reducible exact H) | (have H2_ := (Option.bind_some _ _).symm.trans H;rw [hy580];with_reducible exact H2_) | (have H2_ := (Option.bind_some _ _).symm.trans H;with_reducible exact H2_) | with_reducible exact H | (rw [hy580];exact H) | exact H
             have Ny580 := Aside0.mk hy580
             clear hy580
             have H' := Aside0.mk H
             clear H
             have p576 : 0 ≤ (x35_2 : Int) := oA
             have q576 : x35_2 < (t568.length : Int) := oA
             obtain ⟨ad576, A576_0, c576_0, e576, hx576_0, hl576_0, hi576_0⟩ := at_L2 (Kd.S_reads' HO_33.out).2.2 x35_2 p576 q576
             obtain rfl : ad572 = ad576 := (by injection e576)
             obtain ⟨ce576, hce576, hMe576, hcc576⟩ := Kd.S_get HO_33.out [] x35_2 p576 (by first | exact q576 | exact oA | (have e_ := (Kd.S_reads' HO_33.out).1;omega))
             obtain ⟨ve576_0, rfl, ge576_0⟩ := hMe576
             have hv576_0 := hcc576 0 _ rfl
             rw [Nat.add_zero, show ((Kd.slice 3 (Kd.int .i64))).sz = 1 from rfl, Nat.mul_one] at hv576_0
             replace hv576_0 := Option.some.inj (hv576_0.symm.trans hx576_0)
             rw [hv576_0] at ge576_0
             have HL576_0 := Aside0.mk (show Kd.R (Kd.int .i64) 3 _ _ _ _ (rd_L2 t568 x35_2) from ge576_0)
             clear hv576_0 ge576_0
             clear hcc576 hce576
             have HR576_0 := Aside0.mk hi576_0
             have HC576_0 := Aside0.mk hl576_0
             clear hi576_0 hl576_0
             replace p576 := eq_true p576
             replace q576 := eq_true q576
             try go_wp2
             have n0_ := Aside0.mk (Kd.R_drew HO_10.out)
             have n1_ := Aside0.mk (Kd.S_drew HO_24.out);have n90_ := Aside0.mk (Kd.R_drew HF.out)
             have n2_ := Aside0.mk (Kd.S_drew HO_33.out)
             have n3_ := Aside0.mk (Kd.S_drew HO_572001.out)
             have n4_ := Aside0.mk (Kd.S_drew HO_572002.out)
             have n5_ := Aside0.mk (Kd.R_drew HL576_0.out)
             have n6_ := Aside0.mk (blk_drew BK565.out)
             have n7_ := Aside0.mk (blk_drew BK571.out)
             have n8_ := Aside0.mk (Kd.C_drew HR576_0.out)
             have n9_ := Aside0.mk (below_drew1 HB.out)
             clear HO_10
             clear HO_24 HF
             clear HO_33
             clear HO_572001
             clear HO_572002
             clear HL576_0
             clear BK565
             clear BK571
             clear HR576_0
             clear HB
             have HO_10 := n0_
             have HO_24 := n1_;have HF := n90_;clear n90_
             have HO_33 := n2_
             have HO_572001 := n3_
             have HO_572002 := n4_
             have HL576_0 := n5_
             have BK565 := n6_
             have BK571 := n7_
             have HR576_0 := n8_
             have HB := n9_
             clear n0_ n1_ n2_ n3_ n4_ n5_ n6_ n7_ n8_ n9_
             refine start_ (n := 7) (S := fun w' => w'.cell? ⟨gb565, 0, none⟩ = some (.slice A0_0 l0_0.length c0_0)) (ds := []) #[false,false,false,false,false,false,false] (by kernel_rfl) rfl rfl ((blk_cell BK565.out 0).trans rfl) (fun hHeld => ?_)
             generalize wr.drew = w29 at HO_10 HO_24 HF HO_33 HO_572001 HO_572002 HL576_0 BK565 BK571 HR576_0 HB hHeld ⊢
             refine pure_ (i := 1) (N := some 41) (v := ?_) (a' := ?_) #[false,true,false,false,false,false,false] rfl rfl (by kernel_rfl) (fun _ _ _ h => h) (Or.inl ⟨by rfl, ?_⟩) ?_ ?_
             rotate_left
             ·intro w'
              go_simp
              with_reducible rfl
             rotate_left
             ·simp only [Act.put, List.setIfInBounds_toArray, List.set_cons_zero, List.set_cons_succ, i64_w, i32_w]
              rfl
             refine pure_ (i := 3) (N := some 43) (v := ?_) (a' := ?_) #[false,true,false,true,false,false,false] rfl rfl (by kernel_rfl) (fun _ _ _ h => h) (Or.inl ⟨by rfl, ?_⟩) ?_ ?_
             rotate_left
             ·intro w'
              go_simp
              with_reducible rfl
             rotate_left
             ·simp only [Act.put, List.setIfInBounds_toArray, List.set_cons_zero, List.set_cons_succ, i64_w, i32_w]
              rfl
             refine pure_ (i := 5) (N := some 45) (v := ?_) (a' := ?_) #[false,true,false,true,false,true,false] rfl rfl (by kernel_rfl) (fun _ _ _ h => h) (Or.inl ⟨by rfl, ?_⟩) ?_ ?_
             rotate_left
             ·intro w'
              go_simp
              with_reducible rfl
             rotate_left
             ·simp only [Act.put, List.setIfInBounds_toArray, List.set_cons_zero, List.set_cons_succ, i64_w, i32_w]
              rfl
             refine take_ (i := 0) (N := some 40) (v := ?_) (a' := ?_) #[true,true,false,true,false,true,false] rfl rfl (by kernel_rfl) (fun _ _ _ h => h) (Or.inl ⟨by rfl, ?_⟩) hHeld ?_ ?_
             rotate_left
             ·intro w' s0
              go_simp
              with_reducible rfl
             rotate_left
             ·simp only [Act.put, List.setIfInBounds_toArray, List.set_cons_zero, List.set_cons_succ, i64_w, i32_w]
              rfl
             refine one_ (i := 2) (N := some 42) #[true,true,true,true,false,true,false] rfl rfl (by kernel_rfl) (by decide) (fun K hK => ?_)
             refine goes_ Tryd.func54 (by kernel_rfl) rfl #[.slice A572_0 (rd_L2 t568 x26_1).length c572_0] (by rfl) rfl rfl mM ?_
             with_reducible refine (impl_maskOf.calls k2 _ _ (rd_L2 t568 x26_1) t577 _ ?side1 ?side2 A24.out).mono ?_
             (case side1 => exact cP (Kd.R_reads' HF.out).2.2)
             (case side2 => exact HC572_0.out)
             rintro e w' ⟨rfl, ⟨nd, rfl⟩⟩
             refine ⟨_, rfl, ?_⟩
             refine hK.out _ _ ((blk_cell BK565.out 0).trans rfl) (fun hHeld => ?_)
             clear hK K
             refine norm_ (a' := ?_) ?_ ?_
             rotate_left
             ·show Act.put _ (some 42) _ = _
              simp only [Act.put, List.setIfInBounds_toArray, List.set_cons_zero, List.set_cons_succ, i64_w, i32_w]
              rfl
             refine one_ (i := 4) (N := some 44) #[true,true,true,true,true,true,false] rfl rfl (by kernel_rfl) (by decide) (fun K hK => ?_)
             refine goes_ Tryd.func54 (by kernel_rfl) rfl #[.slice A576_0 (rd_L2 t568 x35_2).length c576_0] (by rfl) rfl rfl mM ?_
             with_reducible refine (impl_maskOf.calls k2 _ _ (rd_L2 t568 x35_2) t578 _ ?side1 ?side2 A25.out).mono ?_
             (case side1 => exact cP (by repeat (first | (with_reducible exact HR576_0.out) | (with_reducible refine Kd.C_alloc ?_ _) | (with_reducible refine Kd.C_drewN ?_ _) | (with_reducible refine Kd.C_drew ?_) | exact HR576_0.out)))
             (case side2 => exact HC576_0.out)
             rintro e w' ⟨rfl, ⟨nd, rfl⟩⟩
             refine ⟨_, rfl, ?_⟩
             refine hK.out _ _ ((blk_cell BK565.out 0).trans rfl) (fun hHeld => ?_)
             clear hK K
             refine norm_ (a' := ?_) ?_ ?_
             rotate_left
             ·show Act.put _ (some 44) _ = _
              simp only [Act.put, List.setIfInBounds_toArray, List.set_cons_zero, List.set_cons_succ, i64_w, i32_w]
              rfl
             refine one_ (i := 6) (N := some 46) #[true,true,true,true,true,true,true] rfl rfl (by kernel_rfl) (by decide) (fun K hK => ?_)
             refine goes_ Tryd.func53 (by kernel_rfl) rfl #[.agg #[.slice A0_0 l0_0.length c0_0], .int .i64 t577, .int .i64 t578, .bool a2] (by rfl) rfl rfl mM ?_
             with_reducible refine (impl_net_canMoveGuards.calls k2 _ _ l0_0 t577 t578 a2 true _ ?sideT ?side1 ?side2 A26.out).mono ?_
             (case sideT => exact tabG_below HT.out (by exact bB))
             (case side1 => exact cP (Kd.C_below HR0_0.out (by repeat (first | (with_reducible first | exact HB.out | apply below_alloc | apply pw_below_drewN | apply below_drew1 | refine below_set ?_ GE565.out | refine below_set ?_ GE571.out) | exact HB.out))))
             (case side2 => exact HC0_0.out)
             rintro e w30 ⟨rfl, hb⟩
             refine ⟨_, rfl, ?_⟩
             have n0_ := Aside0.mk (Kd.R_below (by exact rP HO_10.out) hb)
             have n1_ := Aside0.mk (Kd.S_below (by (with_reducible repeat (first | apply Kd.S_alloc | apply Kd.S_drewN | apply Kd.S_drew));exact HO_24.out) hb);have n90_ := Aside0.mk (Kd.R_below (by exact rP HF.out) hb)
             have n2_ := Aside0.mk (Kd.S_below (by (with_reducible repeat (first | apply Kd.S_alloc | apply Kd.S_drewN | apply Kd.S_drew));exact HO_33.out) hb)
             have n3_ := Aside0.mk (Kd.S_below (by (with_reducible repeat (first | apply Kd.S_alloc | apply Kd.S_drewN | apply Kd.S_drew));exact HO_572001.out) hb)
             have n4_ := Aside0.mk (Kd.S_below (by (with_reducible repeat (first | apply Kd.S_alloc | apply Kd.S_drewN | apply Kd.S_drew));exact HO_572002.out) hb)
             have n5_ := Aside0.mk (Kd.R_below (by exact rP HL576_0.out) hb)
             have n6_ := Aside0.mk (blk_below (g := gb565) (o := .cells #[.slice A0_0 l0_0.length c0_0] 62 (0, 0)) (by exact kP BK565.out) hb)
             have n7_ := Aside0.mk (blk_below (g := gb571) (o := .cells #[.int .i64 t566, .slice (some ad572) t568.length co12, u572002] 89 (0, 0)) (by exact kP BK571.out) hb)
             have n8_ := Aside0.mk (Kd.C_below (by repeat (first | (with_reducible exact HR576_0.out) | (with_reducible refine Kd.C_alloc ?_ _) | (with_reducible refine Kd.C_drewN ?_ _) | (with_reducible refine Kd.C_drew ?_) | exact HR576_0.out)) hb)
             have n9_ := Aside0.mk (below_step (by exact bB) hb)
             clear HO_10
             clear HO_24 HF
             clear HO_33
             clear HO_572001
             clear HO_572002
             clear HL576_0
             clear BK565
             clear BK571
             clear HR576_0
             clear HB
             have HO_10 := n0_
             have HO_24 := n1_;have HF := n90_;clear n90_
             have HO_33 := n2_
             have HO_572001 := n3_
             have HO_572002 := n4_
             have HL576_0 := n5_
             have BK565 := n6_
             have BK571 := n7_
             have HR576_0 := n8_
             have HB := n9_
             clear n0_ n1_ n2_ n3_ n4_ n5_ n6_ n7_ n8_ n9_
             (try clear hb)
             (try clear hb2)
             (try clear hk)
             (try clear hi)
             refine hK.out _ _ ((blk_cell BK565.out 0).trans rfl) (fun hHeld => ?_)
             clear hK K
             refine norm_ (a' := ?_) ?_ ?_
             rotate_left
             ·show Act.put _ (some 46) _ = _
              simp only [Act.put, List.setIfInBounds_toArray, List.set_cons_zero, List.set_cons_succ, i64_w, i32_w]
              rfl
             refine done_ (by kernel_rfl) ?_
             try go_wp2_with (first | ((with_reducible refine gate_builtin (b := .append) (xs := #[.tmp 47, .tmp 49]) rfl ?_);at_builtin;refine Kd.R_append (Kd.int .i64) (w0 := w) w.heap.size rfl (.tmp 47) (.tmp 49) 32 3 (.int .i64 0) 8 rfl Tryd.underlying32 info3 rfl (by decide) (by omega) u10 x10_2 x35_2 [.int .i64 x35_2] (fun _ => True) (fun _ => False) rfl rfl ?aP (fun _ hk => hk.elim) ?aF ?aO ?aB ?aS ?aL ?_;(case aP => exact rfl);(case aB => exact (by exact bB));(case aF => exact (fun _ _ => trivial));(case aO => exact (by exact rP HO_10.out));(case aS => exact (below_size (by exact bB)));(case aL => have := LMc28.out;omega);intro v581 w31 ho hb hg hat;rw [← Ny580.out] at ho;have n0_ := Aside0.mk (Kd.S_after (ok := (fun k_ => some k_ ≠ (u572002 : Value).ownBlock)) (by (with_reducible repeat (first | apply Kd.S_alloc | apply Kd.S_drewN | apply Kd.S_drew));exact Kd.S_mono HO_24.out (fun _ hk => ⟨hk.2, hk.1⟩)) hg hat);have n90_ := Aside0.mk (Kd.R_after (ok := (fun k_ => some k_ ≠ (u572002 : Value).ownBlock)) (by exact rP (Kd.R_mono HF.out (fun _ hk => ⟨hk.2, hk.1⟩))) hg hat);have n1_ := Aside0.mk (Kd.S_after (ok := (fun k_ => some k_ ≠ (u572002 : Value).ownBlock)) (by (with_reducible repeat (first | apply Kd.S_alloc | apply Kd.S_drewN | apply Kd.S_drew));exact Kd.S_mono HO_33.out (fun _ hk => ⟨hk.2, hk.1⟩)) hg hat);have n2_ := Aside0.mk (Kd.S_after (ok := (fun k_ => some k_ ≠ (u572002 : Value).ownBlock)) (by (with_reducible repeat (first | apply Kd.S_alloc | apply Kd.S_drewN | apply Kd.S_drew));exact Kd.S_mono HO_572001.out (fun _ hk => ⟨hk.2, hk.1⟩)) hg hat);have n3_ := Aside0.mk (Kd.S_after (ok := (fun k_ => some k_ ≠ (.slice (some ad572) t568.length co12 : Value).ownBlock ∧ some k_ ≠ (.slice (some ad572) t568.length co12 : Value).ownBlock ∧ some k_ ≠ (.slice (some ad572) t568.length co12 : Value).ownBlock)) (by (with_reducible repeat (first | apply Kd.S_alloc | apply Kd.S_drewN | apply Kd.S_drew));exact Kd.S_mono HO_572002.out (fun _ hk => ⟨⟨hk.2.1, ⟨hk.2.2.1, hk.2.2.2⟩⟩, hk.1⟩)) hg hat);have n4_ := Aside0.mk (blk_grown (g := gb565) (o := .cells #[.slice A0_0 l0_0.length c0_0] 62 (0, 0)) (by exact kP BK565.out) hg (Kd.R_ne HO_10.out BK565.out (by decide)));have n5_ := Aside0.mk (blk_grown (g := gb571) (o := .cells #[.int .i64 t566, .slice (some ad572) t568.length co12, u572002] 89 (0, 0)) (by exact kP BK571.out) hg (Kd.R_ne HO_10.out BK571.out (by decide)));have n6_ := Aside0.mk (Kd.R_after (ok := (fun k_ => some k_ ≠ (.slice (some ad572) t568.length co12 : Value).ownBlock ∧ some k_ ≠ (u572002 : Value).ownBlock)) (by exact rP (Kd.R_mono HL576_0.out (fun _ hk => ⟨⟨hk.2, hk.1.2⟩, hk.1.1⟩))) hg hat);have n7_ := Aside0.mk (hb);have n8_ := Aside0.mk (ho);clear HO_24 HF;clear HO_33;clear HO_572001;clear HO_572002;clear BK565;clear BK571;clear HL576_0;clear HB;clear HO_10;have HO_24 := n0_;have HF := n90_;clear n90_;have HO_33 := n1_;have HO_572001 := n2_;have HO_572002 := n3_;have BK565 := n4_;have BK571 := n5_;have HL576_0 := n6_;have HB := n7_;have HO582 := n8_;clear n0_ n1_ n2_ n3_ n4_ n5_ n6_ n7_ n8_;clear ho hb hg hat))
             go_roundg k2
             case measure => have := HK1.out;have := HK2.out;omega
             case rel => exact ⟨(y580), (wrap64 (x35_2 + 1)), (by first | rfl | (simp;done) | (simp [*];done)), H', ⟨by have := HK1.out;have := HK2.out;omega⟩, ⟨by exact rP HO582.out⟩, ⟨by (with_reducible repeat (first | apply Kd.S_alloc | apply Kd.S_drewN | apply Kd.S_drew));exact Kd.S_mono HO_24.out (fun _ hk => ⟨hk.2, hk.1⟩)⟩, ⟨by refine rP ?_;exact Kd.R_mono HF.out (fun _ hk => ⟨hk.2, hk.1⟩)⟩, ⟨by (with_reducible repeat (first | apply Kd.S_alloc | apply Kd.S_drewN | apply Kd.S_drew));exact Kd.S_mono HO_33.out (fun _ hk => ⟨hk.2, hk.1⟩)⟩, ⟨by (with_reducible repeat (first | apply Kd.S_alloc | apply Kd.S_drewN | apply Kd.S_drew));exact Kd.S_mono HO_572001.out (fun _ hk => ⟨hk.2, hk.1⟩)⟩, ⟨by (with_reducible repeat (first | apply Kd.S_alloc | apply Kd.S_drewN | apply Kd.S_drew));exact Kd.S_mono HO_572002.out (fun _ hk => ⟨hk.2, ⟨hk.1.1, ⟨hk.1.2.1, hk.1.2.2⟩⟩⟩)⟩, ⟨by exact kP BK565.out⟩, ⟨by exact kP BK571.out⟩, ⟨by exact bB⟩⟩
            ·rw [if_neg c28] at H
             exact absurd H (by simp)
           ·replace c27 := Bool.eq_false_iff.mpr c27
            subst c27
            have H1 : (impl_net_guardGame.l1 k2 a2 (rd_L2 t568 x26_1) x10_2 t568 (t568.length : Int) x26_1 t568 (t568.length : Int) (wrap64 (x35_2 + 1)) l0_0 t566 t568 x572002_1) = some (r1, r2, r3) := by rw [if_neg (show ¬ (false = true) by decide)] at H;exact H
            clear H
            have H := H1
            clear H1
            have H' := Aside0.mk H
            clear H
            have p576 : 0 ≤ (x35_2 : Int) := oA
            have q576 : x35_2 < (t568.length : Int) := oA
            obtain ⟨ad576, A576_0, c576_0, e576, hx576_0, hl576_0, hi576_0⟩ := at_L2 (Kd.S_reads' HO_33.out).2.2 x35_2 p576 q576
            obtain rfl : ad572 = ad576 := (by injection e576)
            obtain ⟨ce576, hce576, hMe576, hcc576⟩ := Kd.S_get HO_33.out [] x35_2 p576 (by first | exact q576 | exact oA | (have e_ := (Kd.S_reads' HO_33.out).1;omega))
            obtain ⟨ve576_0, rfl, ge576_0⟩ := hMe576
            have hv576_0 := hcc576 0 _ rfl
            rw [Nat.add_zero, show ((Kd.slice 3 (Kd.int .i64))).sz = 1 from rfl, Nat.mul_one] at hv576_0
            replace hv576_0 := Option.some.inj (hv576_0.symm.trans hx576_0)
            rw [hv576_0] at ge576_0
            have HL576_0 := Aside0.mk (show Kd.R (Kd.int .i64) 3 _ _ _ _ (rd_L2 t568 x35_2) from ge576_0)
            clear hv576_0 ge576_0
            clear hcc576 hce576
            have HR576_0 := Aside0.mk hi576_0
            have HC576_0 := Aside0.mk hl576_0
            clear hi576_0 hl576_0
            replace p576 := eq_true p576
            replace q576 := eq_true q576
            try go_wp2
            have n0_ := Aside0.mk (Kd.R_drew HO_10.out)
            have n1_ := Aside0.mk (Kd.S_drew HO_24.out);have n90_ := Aside0.mk (Kd.R_drew HF.out)
            have n2_ := Aside0.mk (Kd.S_drew HO_33.out)
            have n3_ := Aside0.mk (Kd.S_drew HO_572001.out)
            have n4_ := Aside0.mk (Kd.S_drew HO_572002.out)
            have n5_ := Aside0.mk (Kd.R_drew HL576_0.out)
            have n6_ := Aside0.mk (blk_drew BK565.out)
            have n7_ := Aside0.mk (blk_drew BK571.out)
            have n8_ := Aside0.mk (Kd.C_drew HR576_0.out)
            have n9_ := Aside0.mk (below_drew1 HB.out)
            clear HO_10
            clear HO_24 HF
            clear HO_33
            clear HO_572001
            clear HO_572002
            clear HL576_0
            clear BK565
            clear BK571
            clear HR576_0
            clear HB
            have HO_10 := n0_
            have HO_24 := n1_;have HF := n90_;clear n90_
            have HO_33 := n2_
            have HO_572001 := n3_
            have HO_572002 := n4_
            have HL576_0 := n5_
            have BK565 := n6_
            have BK571 := n7_
            have HR576_0 := n8_
            have HB := n9_
            clear n0_ n1_ n2_ n3_ n4_ n5_ n6_ n7_ n8_ n9_
            refine start_ (n := 7) (S := fun w' => w'.cell? ⟨gb565, 0, none⟩ = some (.slice A0_0 l0_0.length c0_0)) (ds := []) #[false,false,false,false,false,false,false] (by kernel_rfl) rfl rfl ((blk_cell BK565.out 0).trans rfl) (fun hHeld => ?_)
            generalize wr.drew = w32 at HO_10 HO_24 HF HO_33 HO_572001 HO_572002 HL576_0 BK565 BK571 HR576_0 HB hHeld ⊢
            refine pure_ (i := 1) (N := some 41) (v := ?_) (a' := ?_) #[false,true,false,false,false,false,false] rfl rfl (by kernel_rfl) (fun _ _ _ h => h) (Or.inl ⟨by rfl, ?_⟩) ?_ ?_
            rotate_left
            ·intro w'
             go_simp
             with_reducible rfl
            rotate_left
            ·simp only [Act.put, List.setIfInBounds_toArray, List.set_cons_zero, List.set_cons_succ, i64_w, i32_w]
             rfl
            refine pure_ (i := 3) (N := some 43) (v := ?_) (a' := ?_) #[false,true,false,true,false,false,false] rfl rfl (by kernel_rfl) (fun _ _ _ h => h) (Or.inl ⟨by rfl, ?_⟩) ?_ ?_
            rotate_left
            ·intro w'
             go_simp
             with_reducible rfl
            rotate_left
            ·simp only [Act.put, List.setIfInBounds_toArray, List.set_cons_zero, List.set_cons_succ, i64_w, i32_w]
             rfl
            refine pure_ (i := 5) (N := some 45) (v := ?_) (a' := ?_) #[false,true,false,true,false,true,false] rfl rfl (by kernel_rfl) (fun _ _ _ h => h) (Or.inl ⟨by rfl, ?_⟩) ?_ ?_
            rotate_left
            ·intro w'
             go_simp
             with_reducible rfl
            rotate_left
            ·simp only [Act.put, List.setIfInBounds_toArray, List.set_cons_zero, List.set_cons_succ, i64_w, i32_w]
             rfl
            refine take_ (i := 0) (N := some 40) (v := ?_) (a' := ?_) #[true,true,false,true,false,true,false] rfl rfl (by kernel_rfl) (fun _ _ _ h => h) (Or.inl ⟨by rfl, ?_⟩) hHeld ?_ ?_
            rotate_left
            ·intro w' s0
             go_simp
             with_reducible rfl
            rotate_left
            ·simp only [Act.put, List.setIfInBounds_toArray, List.set_cons_zero, List.set_cons_succ, i64_w, i32_w]
             rfl
            refine one_ (i := 2) (N := some 42) #[true,true,true,true,false,true,false] rfl rfl (by kernel_rfl) (by decide) (fun K hK => ?_)
            refine goes_ Tryd.func54 (by kernel_rfl) rfl #[.slice A572_0 (rd_L2 t568 x26_1).length c572_0] (by rfl) rfl rfl mM ?_
            with_reducible refine (impl_maskOf.calls k2 _ _ (rd_L2 t568 x26_1) t577 _ ?side1 ?side2 A24.out).mono ?_
            (case side1 => exact cP (Kd.R_reads' HF.out).2.2)
            (case side2 => exact HC572_0.out)
            rintro e w' ⟨rfl, ⟨nd, rfl⟩⟩
            refine ⟨_, rfl, ?_⟩
            refine hK.out _ _ ((blk_cell BK565.out 0).trans rfl) (fun hHeld => ?_)
            clear hK K
            refine norm_ (a' := ?_) ?_ ?_
            rotate_left
            ·show Act.put _ (some 42) _ = _
             simp only [Act.put, List.setIfInBounds_toArray, List.set_cons_zero, List.set_cons_succ, i64_w, i32_w]
             rfl
            refine one_ (i := 4) (N := some 44) #[true,true,true,true,true,true,false] rfl rfl (by kernel_rfl) (by decide) (fun K hK => ?_)
            refine goes_ Tryd.func54 (by kernel_rfl) rfl #[.slice A576_0 (rd_L2 t568 x35_2).length c576_0] (by rfl) rfl rfl mM ?_
            with_reducible refine (impl_maskOf.calls k2 _ _ (rd_L2 t568 x35_2) t578 _ ?side1 ?side2 A25.out).mono ?_
            (case side1 => exact cP (by repeat (first | (with_reducible exact HR576_0.out) | (with_reducible refine Kd.C_alloc ?_ _) | (with_reducible refine Kd.C_drewN ?_ _) | (with_reducible refine Kd.C_drew ?_) | exact HR576_0.out)))
            (case side2 => exact HC576_0.out)
            rintro e w' ⟨rfl, ⟨nd, rfl⟩⟩
            refine ⟨_, rfl, ?_⟩
            refine hK.out _ _ ((blk_cell BK565.out 0).trans rfl) (fun hHeld => ?_)
            clear hK K
            refine norm_ (a' := ?_) ?_ ?_
            rotate_left
            ·show Act.put _ (some 44) _ = _
             simp only [Act.put, List.setIfInBounds_toArray, List.set_cons_zero, List.set_cons_succ, i64_w, i32_w]
             rfl
            refine one_ (i := 6) (N := some 46) #[true,true,true,true,true,true,true] rfl rfl (by kernel_rfl) (by decide) (fun K hK => ?_)
            refine goes_ Tryd.func53 (by kernel_rfl) rfl #[.agg #[.slice A0_0 l0_0.length c0_0], .int .i64 t577, .int .i64 t578, .bool a2] (by rfl) rfl rfl mM ?_
            with_reducible refine (impl_net_canMoveGuards.calls k2 _ _ l0_0 t577 t578 a2 false _ ?sideT ?side1 ?side2 A26.out).mono ?_
            (case sideT => exact tabG_below HT.out (by exact bB))
            (case side1 => exact cP (Kd.C_below HR0_0.out (by repeat (first | (with_reducible first | exact HB.out | apply below_alloc | apply pw_below_drewN | apply below_drew1 | refine below_set ?_ GE565.out | refine below_set ?_ GE571.out) | exact HB.out))))
            (case side2 => exact HC0_0.out)
            rintro e w33 ⟨rfl, hb⟩
            refine ⟨_, rfl, ?_⟩
            have n0_ := Aside0.mk (Kd.R_below (by exact rP HO_10.out) hb)
            have n1_ := Aside0.mk (Kd.S_below (by (with_reducible repeat (first | apply Kd.S_alloc | apply Kd.S_drewN | apply Kd.S_drew));exact HO_24.out) hb);have n90_ := Aside0.mk (Kd.R_below (by exact rP HF.out) hb)
            have n2_ := Aside0.mk (Kd.S_below (by (with_reducible repeat (first | apply Kd.S_alloc | apply Kd.S_drewN | apply Kd.S_drew));exact HO_33.out) hb)
            have n3_ := Aside0.mk (Kd.S_below (by (with_reducible repeat (first | apply Kd.S_alloc | apply Kd.S_drewN | apply Kd.S_drew));exact HO_572001.out) hb)
            have n4_ := Aside0.mk (Kd.S_below (by (with_reducible repeat (first | apply Kd.S_alloc | apply Kd.S_drewN | apply Kd.S_drew));exact HO_572002.out) hb)
            have n5_ := Aside0.mk (Kd.R_below (by exact rP HL576_0.out) hb)
            have n6_ := Aside0.mk (blk_below (g := gb565) (o := .cells #[.slice A0_0 l0_0.length c0_0] 62 (0, 0)) (by exact kP BK565.out) hb)
            have n7_ := Aside0.mk (blk_below (g := gb571) (o := .cells #[.int .i64 t566, .slice (some ad572) t568.length co12, u572002] 89 (0, 0)) (by exact kP BK571.out) hb)
            have n8_ := Aside0.mk (Kd.C_below (by repeat (first | (with_reducible exact HR576_0.out) | (with_reducible refine Kd.C_alloc ?_ _) | (with_reducible refine Kd.C_drewN ?_ _) | (with_reducible refine Kd.C_drew ?_) | exact HR576_0.out)) hb)
            have n9_ := Aside0.mk (below_step (by exact bB) hb)
            clear HO_10
            clear HO_24 HF
            clear HO_33
            clear HO_572001
            clear HO_572002
            clear HL576_0
            clear BK565
            clear BK571
            clear HR576_0
            clear HB
            have HO_10 := n0_
            have HO_24 := n1_;have HF := n90_;clear n90_
            have HO_33 := n2_
            have HO_572001 := n3_
            have HO_572002 := n4_
            have HL576_0 := n5_
            have BK565 := n6_
            have BK571 := n7_
            have HR576_0 := n8_
            have HB := n9_
            clear n0_ n1_ n2_ n3_ n4_ n5_ n6_ n7_ n8_ n9_
            (try clear hb)
            (try clear hb2)
            (try clear hk)
            (try clear hi)
            refine hK.out _ _ ((blk_cell BK565.out 0).trans rfl) (fun hHeld => ?_)
            clear hK K
            refine norm_ (a' := ?_) ?_ ?_
            rotate_left
            ·show Act.put _ (some 46) _ = _
             simp only [Act.put, List.setIfInBounds_toArray, List.set_cons_zero, List.set_cons_succ, i64_w, i32_w]
             rfl
            refine done_ (by kernel_rfl) ?_
            try go_wp2
            go_roundg k2
            case measure => have := HK1.out;have := HK2.out;omega
            case rel => exact ⟨(x10_2), (wrap64 (x35_2 + 1)), (by first | rfl | (simp;done) | (simp [*];done)), H', ⟨by have := HK1.out;have := HK2.out;omega⟩, ⟨by exact rP HO_10.out⟩, ⟨by (with_reducible repeat (first | apply Kd.S_alloc | apply Kd.S_drewN | apply Kd.S_drew));exact HO_24.out⟩, ⟨by exact rP HF.out⟩, ⟨by (with_reducible repeat (first | apply Kd.S_alloc | apply Kd.S_drewN | apply Kd.S_drew));exact HO_33.out⟩, ⟨by (with_reducible repeat (first | apply Kd.S_alloc | apply Kd.S_drewN | apply Kd.S_drew));exact HO_572001.out⟩, ⟨by (with_reducible repeat (first | apply Kd.S_alloc | apply Kd.S_drewN | apply Kd.S_drew));exact HO_572002.out⟩, ⟨by exact kP BK565.out⟩, ⟨by exact kP BK571.out⟩, ⟨by exact bB⟩⟩
          ·rw [if_neg c23] at H
           exact absurd H (by simp)
         ·rw [if_neg c22] at H
          exact absurd H (by simp)
        ·rw [if_neg c21] at H
         have c21b0 : decide (x35_2 < (t568.length : Int)) = false := decide_eq_false c21
         clear c21
         by_cases c34 : x572002_1.length < 5864062014805
         ·rw [if_pos c34] at H
          have LMc34 := Aside0.mk c34
          clear c34
          obtain ⟨y573, hy573⟩ : ∃ y_ : List (List Int), y_ = (x572002_1 ++ [x10_2]) := ⟨_, rfl⟩
          replace H : (impl_net_guardGame.l0 k2 a2 t568 (t568.length : Int) (wrap64 (x26_1 + 1)) l0_0 t566 t568 y573) = some (r1, r2, r3) := by first | (rw [hy573];with_reducible exact H) | (have H2_ := (Option.bind_some _ _).symm.trans H;rw [hy573];with_reducible exact H2_) | (have H2_ := (Option.bind_some _ _).symm.trans H;with_reducible exact H2_) | with_reducible exact H | (rw [hy573];exact H) | exact H
          have Ny573 := Aside0.mk hy573
          clear hy573
          have H' := Aside0.mk H
          clear H
          have hnb35 := NB571_565.out
          have hnc35 := NB565_571.out
          have hcz36_0 : wr.cell? ⟨gb571, 0, none⟩ = some (.int .i64 t566) := (blk_cell BK571.out 0).trans rfl
          have hcz36_1 : wr.cell? ⟨gb571, 1, none⟩ = some (.slice (some ad572) t568.length co12) := (blk_cell BK571.out 1).trans rfl
          have hcz36_2 : wr.cell? ⟨gb571, 2, none⟩ = some (u572002) := (blk_cell BK571.out 2).trans rfl
          have hfz36_0 := blk_frozen BK571.out 0
          have hfz36_1 := blk_frozen BK571.out 1
          have hfz36_2 := blk_frozen BK571.out 2
          obtain ⟨Ao38, co38, eo38⟩ := Kd.R_slice HO_10.out
          subst eo38
          go_wp2_with (first | ((with_reducible refine gate_builtin (b := .append) (xs := #[.tmp 56, .tmp 58]) rfl ?_);at_builtin;refine Kd.S_append (Kd.slice 3 (Kd.int .i64)) (w0 := w) w.heap.size rfl (.tmp 56) (.tmp 58) 38 32 (.slice none 0 0) 24 rfl Tryd.underlying38 info32 rfl (by decide) (by omega) u572002 x572002_1 x10_2 [.slice Ao38 x10_2.length co38] (fun k_ => some k_ ≠ (.slice (some ad572) t568.length co12 : Value).ownBlock ∧ some k_ ≠ (.slice (some ad572) t568.length co12 : Value).ownBlock ∧ some k_ ≠ (.slice (some ad572) t568.length co12 : Value).ownBlock) (fun k_ => some k_ = (.slice Ao38 x10_2.length co38 : Value).ownBlock) rfl rfl ?aP (fun k_ hk_ => ((Kd.R_mono (ok' := fun k_ => ((fun k_ => some k_ ≠ (.slice (some ad572) t568.length co12 : Value).ownBlock ∧ some k_ ≠ (.slice (some ad572) t568.length co12 : Value).ownBlock ∧ some k_ ≠ (.slice (some ad572) t568.length co12 : Value).ownBlock)) k_ ∧ some k_ ≠ (u572002 : Value).ownBlock) (Kd.R_apart' (Kd.R_apart' (Kd.R_apart' (Kd.R_apart' (HO_10.out) (Kd.S_typed HO_24.out) (by decide)) (Kd.S_typed HO_33.out) (by decide)) (Kd.S_typed HO_572001.out) (by decide)) (Kd.S_typed HO_572002.out) (by decide)) (fun k_ hk => ⟨⟨hk.1.1.1.2, ⟨hk.1.1.2, hk.1.2⟩⟩, hk.2⟩))).1 k_ hk_.symm) ?aF ?aO ?aB ?aS ?aL ?_;(case aP => exact Kd.M_row (Kd.R_mono (Kd.R_tight rfl (Kd.R_mono (ok' := fun k_ => ((fun k_ => some k_ ≠ (.slice (some ad572) t568.length co12 : Value).ownBlock ∧ some k_ ≠ (.slice (some ad572) t568.length co12 : Value).ownBlock ∧ some k_ ≠ (.slice (some ad572) t568.length co12 : Value).ownBlock)) k_ ∧ some k_ ≠ (u572002 : Value).ownBlock) (Kd.R_apart' (Kd.R_apart' (Kd.R_apart' (Kd.R_apart' (HO_10.out) (Kd.S_typed HO_24.out) (by decide)) (Kd.S_typed HO_33.out) (by decide)) (Kd.S_typed HO_572001.out) (by decide)) (Kd.S_typed HO_572002.out) (by decide)) (fun k_ hk => ⟨⟨hk.1.1.1.2, ⟨hk.1.1.2, hk.1.2⟩⟩, hk.2⟩))) (fun _ h_ => h_)));(case aB => exact (by exact bB));(case aF => exact (fun k_ hk => ⟨Kd.fresh' (Kd.S_lt (by (with_reducible repeat (first | apply Kd.S_alloc | apply Kd.S_drewN | apply Kd.S_drew));exact HO_24.out)) k_ hk, Kd.fresh' (Kd.S_lt (by (with_reducible repeat (first | apply Kd.S_alloc | apply Kd.S_drewN | apply Kd.S_drew));exact HO_33.out)) k_ hk, Kd.fresh' (Kd.S_lt (by (with_reducible repeat (first | apply Kd.S_alloc | apply Kd.S_drewN | apply Kd.S_drew));exact HO_572001.out)) k_ hk⟩));(case aO => exact (by (with_reducible repeat (first | apply Kd.S_alloc | apply Kd.S_drewN | apply Kd.S_drew));exact Kd.S_mono HO_572002.out (fun k_ hk => ⟨⟨hk.2.1, ⟨hk.2.2.1, hk.2.2.2⟩⟩, fun e_ => hk.1 e_⟩)));(case aS => exact (below_size (by exact bB)));(case aL => have := LMc34.out;omega);intro v574 w37 ho hb hg hat;rw [← Ny573.out] at ho;have n0_ := Aside0.mk (Kd.S_after (ok := (fun k_ => some k_ ≠ (.slice Ao38 x10_2.length co38 : Value).ownBlock)) (by (with_reducible repeat (first | apply Kd.S_alloc | apply Kd.S_drewN | apply Kd.S_drew));exact HO_24.out) hg hat);have n1_ := Aside0.mk (Kd.S_after (ok := (fun k_ => some k_ ≠ (.slice Ao38 x10_2.length co38 : Value).ownBlock)) (by (with_reducible repeat (first | apply Kd.S_alloc | apply Kd.S_drewN | apply Kd.S_drew));exact HO_33.out) hg hat);have n2_ := Aside0.mk (Kd.S_after (ok := (fun k_ => some k_ ≠ (.slice Ao38 x10_2.length co38 : Value).ownBlock)) (by (with_reducible repeat (first | apply Kd.S_alloc | apply Kd.S_drewN | apply Kd.S_drew));exact HO_572001.out) hg hat);have n3_ := Aside0.mk (blk_grown (g := gb565) (o := .cells #[.slice A0_0 l0_0.length c0_0] 62 (0, 0)) (by exact kP BK565.out) hg (Kd.S_ne HO_572002.out BK565.out (by decide)));have n4_ := Aside0.mk (blk_grown (g := gb571) (o := .cells #[.int .i64 t566, .slice (some ad572) t568.length co12, u572002] 89 (0, 0)) (by exact kP BK571.out) hg (Kd.S_ne HO_572002.out BK571.out (by decide)));have n5_ := Aside0.mk (hb);have n6_ := Aside0.mk (ho);clear HO_24;clear HO_33;clear HO_572001;clear BK565;clear BK571;clear HB;clear HO_572002;clear HO_10;have HO_24 := n0_;have HO_33 := n1_;have HO_572001 := n2_;have BK565 := n3_;have BK571 := n4_;have HB := n5_;have HO575 := n6_;clear n0_ n1_ n2_ n3_ n4_ n5_ n6_;clear ho hb hg hat;obtain ⟨Ao39, co39, eo39⟩ := Kd.S_slice HO575.out;subst eo39;have hcz40_0 : w37.cell? ⟨gb571, 0, none⟩ = some (.int .i64 t566) := (blk_cell BK571.out 0).trans rfl;have hcz40_1 : w37.cell? ⟨gb571, 1, none⟩ = some (.slice (some ad572) t568.length co12) := (blk_cell BK571.out 1).trans rfl;have hcz40_2 : w37.cell? ⟨gb571, 2, none⟩ = some (u572002) := (blk_cell BK571.out 2).trans rfl;have hfz40_0 := blk_frozen BK571.out 0;have hfz40_1 := blk_frozen BK571.out 1;have hfz40_2 := blk_frozen BK571.out 2))
          go_roundg k2
          case measure => have := HK1.out;have := HK2.out;omega
          case rel => exact ⟨(wrap64 (x26_1 + 1)), (y573), (.slice Ao39 y573.length co39), (by first | rfl | (simp;done) | (simp [*];done)), H', ⟨by have := HK1.out;have := HK2.out;omega⟩, ⟨by (with_reducible repeat (first | apply Kd.S_alloc | apply Kd.S_drewN | apply Kd.S_drew));exact Kd.S_mono (Kd.S_far (p := ⟨gb571, 2, none⟩) (Kd.S_types HO_24.out BK571.out (by decide)) (fun _ hk => hk.2) (.slice Ao39 y573.length co39)) (fun _ hk => hk.1.2)⟩, ⟨by (with_reducible repeat (first | apply Kd.S_alloc | apply Kd.S_drewN | apply Kd.S_drew));exact Kd.S_mono (Kd.S_far (p := ⟨gb571, 2, none⟩) (Kd.S_types HO_572001.out BK571.out (by decide)) (fun _ hk => hk.2) (.slice Ao39 y573.length co39)) (fun _ hk => hk.1.2)⟩, ⟨by (with_reducible repeat (first | apply Kd.S_alloc | apply Kd.S_drewN | apply Kd.S_drew));exact Kd.S_mono (Kd.S_far (p := ⟨gb571, 2, none⟩) (Kd.S_types HO575.out BK571.out (by decide)) (fun _ hk => hk.2) (.slice Ao39 y573.length co39)) (fun _ hk => ⟨hk.1.1, hk.1.2.2⟩)⟩, ⟨by refine kP ?_;refine blk_far ?_ NB565_571.out _;exact kP BK565.out⟩, ⟨by refine kP ?_;refine blk_put (cs := #[.int .i64 t566, .slice (some ad572) t568.length co12, u572002]) ?_ 2 _ rfl;exact kP BK571.out⟩, ⟨by exact bB⟩⟩
         ·rw [if_neg c34] at H
          exact absurd H (by simp)
     ·rw [if_neg c18] at H
      exact absurd H (by simp)
    ·rw [if_neg c17] at H
     exact absurd H (by simp)
   ·rw [if_neg c16] at H
    have c16b0 : decide (x26_1 < (t568.length : Int)) = false := decide_eq_false c16
    clear c16
    simp only [Option.some.injEq, Prod.mk.injEq] at H
    obtain ⟨rfl, rfl, rfl⟩ := H
    go_wp2
    go_ret
    exact ⟨gb571, _, _, rfl, (by exact kP BK571.out), GW571.out, by (with_reducible repeat (first | apply Kd.S_alloc | apply Kd.S_drewN | apply Kd.S_drew));exact HO_572001.out, by (with_reducible repeat (first | apply Kd.S_alloc | apply Kd.S_drewN | apply Kd.S_drew));exact Kd.S_mono HO_572002.out (fun _ hk => hk.2), by exact bB⟩




end Go.Proofs.YthbjajppdomhhaaDoor.QEternalNumber
